/- The law MemTails. -/
import Derived.Test.YtmabagpagmcnlaaMmC
import Derived.Test.YtmabagpagmcnlaaMmD
import Derived.Test.YtmabagpagmcnlaaMmQ
import Derived.Test.YtmabagpagmcnlaaProg
import Derived.Laws.Externs
set_option linter.unusedVariables false
set_option linter.unusedSimpArgs false
namespace Go.Proofs.Ytmabagpagmcnlaa
open Go.RowKit Go.ChangeShapes Go.WideShapes

theorem rwU8 : Rw Try.prog 5 [some .u8] := Rw.int .u8 Try.underlying5 (by kernel_rfl)
def tys_MmE : List (Nat × TI) := [(3, ⟨false, 1, [.int .i64 (.lit 0)], [], none, some .i64, false, false, none, 8, false, none, false, 0⟩),
 (4, ⟨false, 1, [.bool (.tt false)], [], none, none, false, true, none, 1, false, none, false, 0⟩),
 (5, ⟨false, 1, [.int .u8 (.lit 0)], [], none, some .u8, false, false, none, 1, false, none, false, 0⟩),
 (9, ⟨false, 1, [.str .lnil], [], none, none, false, false, none, 16, false, none, false, 2⟩),
 (22, ⟨false, 1, [.nsl], [], none, none, false, false, some 5, 24, false, none, false, 0⟩),
 (23, ⟨false, 1, [.int .u64 (.lit 0)], [], none, some .u64, false, false, none, 8, false, none, false, 0⟩),
 (25, ⟨false, 1, [.nilp], [], none, none, false, false, none, 8, false, none, false, 1⟩),
 (26, ⟨false, 1, [.int .i64 (.lit 0)], [], none, some .i64, false, false, none, 8, false, none, false, 0⟩),
 (82, ⟨true, 3, [.int .u64 (.lit 0), .nsl, .bool (.tt false)], [(0, 23), (1, 22), (2, 4)], none, none, false, false, none, 40, false, none, false, 0⟩),
 (83, ⟨true, 12, [.int .u64 (.lit 0), .nsl, .bool (.tt false), .int .u64 (.lit 0), .nsl, .bool (.tt false), .int .u64 (.lit 0), .nsl, .bool (.tt false), .int .u64 (.lit 0), .nsl, .bool (.tt false)], [], some (4, 82), none, false, false, none, 160, false, none, false, 0⟩),
 (85, ⟨true, 12, [.int .u64 (.lit 0), .nsl, .bool (.tt false), .int .u64 (.lit 0), .nsl, .bool (.tt false), .int .u64 (.lit 0), .nsl, .bool (.tt false), .int .u64 (.lit 0), .nsl, .bool (.tt false)], [(0, 83)], none, none, false, false, none, 160, false, none, false, 0⟩)]
set_option maxRecDepth 100000 in
theorem tysck_MmE : (tys_MmE.all fun p => ckTI Try.prog p.1 p.2) = true := by kernel_rfl
theorem tyseq_MmE : (tys_MmE.all fun p => !p.2.eqok) = true := by kernel_rfl
theorem tyskn_MmE : (tys_MmE.all fun p => !p.2.keyok) = true := by kernel_rfl
theorem tysok_MmE : ∀ t i, (t, i) ∈ tys_MmE → TIok Try.prog t i := by
  intro t i h
  refine TIok_of (all_at (f := ckTI Try.prog) tysck_MmE h) (fun he => ?_) (fun he => ?_) (fun he => ?_)
  · have h1 := List.all_eq_true.1 tyseq_MmE (t, i) h
    simp [he] at h1
  · have h1 := List.all_eq_true.1 tyseq_MmE (t, i) h
    simp [he] at h1
  · have h1 := List.all_eq_true.1 tyskn_MmE (t, i) h
    simp [he] at h1
def sM_mtails (key : Nat) : Sm := ⟨3, key, [.one (.sl [some .u8] 5), .one (.sl [some .u8] 5), .one (.int .u64)], [.one .bool], false⟩
def sV_mtails (x : List (List Int)) (y : List (List Int)) (at_ : Int) : List Dt := [.z (b2i true)]
def sF_mtails : List Dt → List Dt
  | [.l x0, .l x1, .z x2] => sV_mtails x0 x1 x2
  | _ => []
set_option maxRecDepth 100000 in
def sT_mtails : Tr :=
(.br (.lt (.lit 256) (.len (.lvar 0)))
(.call 2 [.bool] .nil 3
(.leaf (.consb (.bvar 3) .nil)))
(.br (.lt (.lit 400) (.len (.lvar 1)))
(.call 2 [.bool] .nil 3
(.leaf (.consb (.bvar 3) .nil)))
(.br (.lt (.lit 16384) (.len (.lvar 1)))
(.leaf (.consb (.tt false) .nil))
(.br (.lt (.len (.lvar 1)) (.lit 1073741824))
(.br (.lt (.len (.lvar 0)) (.lit 1073741824))
(.call 1 [.sl [some .u8] 5, .int .i64] (.cons (.lit 1048576) (.consl (.lvar 1) (.consb (.tt false) (.cons (.lit 2097152) (.consl (.lvar 0) (.consb (.tt true) (.cons (.lit 3145728) (.consl (.lrep (.lit 64) (.cons (.lit 0) .nil)) (.consb (.tt true) (.cons (.lit 4194304) (.consl (.lrep (.lit 264) (.cons (.lit 0) .nil)) (.consb (.tt true) (.cons (.var 2) .nil))))))))))))) 3
(.call 1 [.sl [some .u8] 5, .int .i64] (.cons (.lit 1048576) (.consl (.lvar 1) (.consb (.tt false) (.cons (.lit 2097152) (.consl (.lvar 0) (.consb (.tt true) (.cons (.lit 3145728) (.consl (.lrep (.lit 64) (.cons (.lit 0) .nil)) (.consb (.tt true) (.cons (.lit 4194304) (.consl (.lrep (.lit 264) (.cons (.lit 0) .nil)) (.consb (.tt true) (.cons (.bin .add .u64 (.var 2) (.lit 1)) .nil))))))))))))) 5
(.br (.eq (.var 4) (.lit 0))
(.br (.eq (.len (.lvar 3)) (.lit 0))
(.leaf (.consb (.tt false) .nil))
(.br (.eq (.var 6) (.lit 0))
(.br (.lt (.len (.lvar 3)) (.lit 1))
.panic
(.br (.leq (.ldrop (.lvar 3) (.lit 1)) (.lvar 5))
(.call 0 [.int .u64, .int .i64] (.cons (.lit 1048576) (.consl (.lvar 1) (.consb (.tt false) (.cons (.lit 2097152) (.consl (.lvar 0) (.consb (.tt true) (.cons (.lit 3145728) (.consl (.lrep (.lit 64) (.cons (.lit 0) .nil)) (.consb (.tt true) (.cons (.lit 4194304) (.consl (.lrep (.lit 264) (.cons (.lit 0) .nil)) (.consb (.tt true) (.cons (.var 2) (.cons (.lit 2) .nil)))))))))))))) 7
(.br (.eq (.var 8) (.lit 0))
(.call 0 [.int .u64, .int .i64] (.cons (.lit 1048576) (.consl (.lvar 1) (.consb (.tt false) (.cons (.lit 2097152) (.consl (.lvar 0) (.consb (.tt true) (.cons (.lit 3145728) (.consl (.lrep (.lit 64) (.cons (.lit 0) .nil)) (.consb (.tt true) (.cons (.lit 4194304) (.consl (.lrep (.lit 264) (.cons (.lit 0) .nil)) (.consb (.tt true) (.cons (.var 2) (.cons (.lit 1) .nil)))))))))))))) 9
(.call 0 [.int .u64, .int .i64] (.cons (.lit 1048576) (.consl (.lvar 1) (.consb (.tt false) (.cons (.lit 2097152) (.consl (.lvar 0) (.consb (.tt true) (.cons (.lit 3145728) (.consl (.lrep (.lit 64) (.cons (.lit 0) .nil)) (.consb (.tt true) (.cons (.lit 4194304) (.consl (.lrep (.lit 264) (.cons (.lit 0) .nil)) (.consb (.tt true) (.cons (.bin .add .u64 (.var 2) (.lit 1)) (.cons (.lit 1) .nil)))))))))))))) 11
(.br (.eq (.var 10) (.lit 0))
(.br (.eq (.var 12) (.lit 0))
(.br (.eq (.var 7) (.bin .or .u64 (.bin .shl .u64 (.var 11) (.lit 8)) (.var 9)))
(.call 0 [.int .u64, .int .i64] (.cons (.lit 1048576) (.consl (.lvar 1) (.consb (.tt false) (.cons (.lit 2097152) (.consl (.lvar 0) (.consb (.tt true) (.cons (.lit 3145728) (.consl (.lrep (.lit 64) (.cons (.lit 0) .nil)) (.consb (.tt true) (.cons (.lit 4194304) (.consl (.lrep (.lit 264) (.cons (.lit 0) .nil)) (.consb (.tt true) (.cons (.var 2) (.cons (.lit 4) .nil)))))))))))))) 13
(.br (.eq (.var 14) (.lit 0))
(.call 0 [.int .u64, .int .i64] (.cons (.lit 1048576) (.consl (.lvar 1) (.consb (.tt false) (.cons (.lit 2097152) (.consl (.lvar 0) (.consb (.tt true) (.cons (.lit 3145728) (.consl (.lrep (.lit 64) (.cons (.lit 0) .nil)) (.consb (.tt true) (.cons (.lit 4194304) (.consl (.lrep (.lit 264) (.cons (.lit 0) .nil)) (.consb (.tt true) (.cons (.bin .add .u64 (.var 2) (.lit 2)) (.cons (.lit 2) .nil)))))))))))))) 15
(.br (.eq (.var 16) (.lit 0))
(.br (.eq (.var 13) (.bin .or .u64 (.bin .shl .u64 (.var 15) (.lit 16)) (.var 7)))
(.call 0 [.int .u64, .int .i64] (.cons (.lit 1048576) (.consl (.lvar 1) (.consb (.tt false) (.cons (.lit 2097152) (.consl (.lvar 0) (.consb (.tt true) (.cons (.lit 3145728) (.consl (.lrep (.lit 64) (.cons (.lit 0) .nil)) (.consb (.tt true) (.cons (.lit 4194304) (.consl (.lrep (.lit 264) (.cons (.lit 0) .nil)) (.consb (.tt true) (.cons (.var 2) (.cons (.lit 8) .nil)))))))))))))) 17
(.br (.eq (.var 18) (.lit 0))
(.call 0 [.int .u64, .int .i64] (.cons (.lit 1048576) (.consl (.lvar 1) (.consb (.tt false) (.cons (.lit 2097152) (.consl (.lvar 0) (.consb (.tt true) (.cons (.lit 3145728) (.consl (.lrep (.lit 64) (.cons (.lit 0) .nil)) (.consb (.tt true) (.cons (.lit 4194304) (.consl (.lrep (.lit 264) (.cons (.lit 0) .nil)) (.consb (.tt true) (.cons (.bin .add .u64 (.var 2) (.lit 4)) (.cons (.lit 4) .nil)))))))))))))) 19
(.br (.eq (.var 20) (.lit 0))
(.br (.eq (.var 17) (.bin .or .u64 (.bin .shl .u64 (.var 19) (.lit 32)) (.var 13)))
(.call 2 [.bool] .nil 21
(.leaf (.consb (.bvar 21) .nil)))
(.leaf (.consb (.tt false) .nil)))
(.leaf (.consb (.tt false) .nil))))
(.call 2 [.bool] .nil 19
(.leaf (.consb (.bvar 19) .nil)))))
(.leaf (.consb (.tt false) .nil)))
(.leaf (.consb (.tt false) .nil))))
(.call 0 [.int .u64, .int .i64] (.cons (.lit 1048576) (.consl (.lvar 1) (.consb (.tt false) (.cons (.lit 2097152) (.consl (.lvar 0) (.consb (.tt true) (.cons (.lit 3145728) (.consl (.lrep (.lit 64) (.cons (.lit 0) .nil)) (.consb (.tt true) (.cons (.lit 4194304) (.consl (.lrep (.lit 264) (.cons (.lit 0) .nil)) (.consb (.tt true) (.cons (.var 2) (.cons (.lit 8) .nil)))))))))))))) 15
(.br (.eq (.var 16) (.lit 0))
(.call 0 [.int .u64, .int .i64] (.cons (.lit 1048576) (.consl (.lvar 1) (.consb (.tt false) (.cons (.lit 2097152) (.consl (.lvar 0) (.consb (.tt true) (.cons (.lit 3145728) (.consl (.lrep (.lit 64) (.cons (.lit 0) .nil)) (.consb (.tt true) (.cons (.lit 4194304) (.consl (.lrep (.lit 264) (.cons (.lit 0) .nil)) (.consb (.tt true) (.cons (.bin .add .u64 (.var 2) (.lit 4)) (.cons (.lit 4) .nil)))))))))))))) 17
(.leaf (.consb (.tt false) .nil)))
(.call 2 [.bool] .nil 17
(.leaf (.consb (.bvar 17) .nil)))))))
(.leaf (.consb (.tt false) .nil)))
(.leaf (.consb (.tt false) .nil)))
(.leaf (.consb (.tt false) .nil)))))
(.call 0 [.int .u64, .int .i64] (.cons (.lit 1048576) (.consl (.lvar 1) (.consb (.tt false) (.cons (.lit 2097152) (.consl (.lvar 0) (.consb (.tt true) (.cons (.lit 3145728) (.consl (.lrep (.lit 64) (.cons (.lit 0) .nil)) (.consb (.tt true) (.cons (.lit 4194304) (.consl (.lrep (.lit 264) (.cons (.lit 0) .nil)) (.consb (.tt true) (.cons (.var 2) (.cons (.lit 4) .nil)))))))))))))) 9
(.br (.eq (.var 10) (.lit 0))
(.call 0 [.int .u64, .int .i64] (.cons (.lit 1048576) (.consl (.lvar 1) (.consb (.tt false) (.cons (.lit 2097152) (.consl (.lvar 0) (.consb (.tt true) (.cons (.lit 3145728) (.consl (.lrep (.lit 64) (.cons (.lit 0) .nil)) (.consb (.tt true) (.cons (.lit 4194304) (.consl (.lrep (.lit 264) (.cons (.lit 0) .nil)) (.consb (.tt true) (.cons (.bin .add .u64 (.var 2) (.lit 2)) (.cons (.lit 2) .nil)))))))))))))) 11
(.leaf (.consb (.tt false) .nil)))
(.call 0 [.int .u64, .int .i64] (.cons (.lit 1048576) (.consl (.lvar 1) (.consb (.tt false) (.cons (.lit 2097152) (.consl (.lvar 0) (.consb (.tt true) (.cons (.lit 3145728) (.consl (.lrep (.lit 64) (.cons (.lit 0) .nil)) (.consb (.tt true) (.cons (.lit 4194304) (.consl (.lrep (.lit 264) (.cons (.lit 0) .nil)) (.consb (.tt true) (.cons (.var 2) (.cons (.lit 8) .nil)))))))))))))) 11
(.br (.eq (.var 12) (.lit 0))
(.call 0 [.int .u64, .int .i64] (.cons (.lit 1048576) (.consl (.lvar 1) (.consb (.tt false) (.cons (.lit 2097152) (.consl (.lvar 0) (.consb (.tt true) (.cons (.lit 3145728) (.consl (.lrep (.lit 64) (.cons (.lit 0) .nil)) (.consb (.tt true) (.cons (.lit 4194304) (.consl (.lrep (.lit 264) (.cons (.lit 0) .nil)) (.consb (.tt true) (.cons (.bin .add .u64 (.var 2) (.lit 4)) (.cons (.lit 4) .nil)))))))))))))) 13
(.leaf (.consb (.tt false) .nil)))
(.call 2 [.bool] .nil 13
(.leaf (.consb (.bvar 13) .nil)))))))))
(.leaf (.consb (.tt false) .nil))))
(.br (.eq (.len (.lvar 3)) (.lit 1))
(.call 0 [.int .u64, .int .i64] (.cons (.lit 1048576) (.consl (.lvar 1) (.consb (.tt false) (.cons (.lit 2097152) (.consl (.lvar 0) (.consb (.tt true) (.cons (.lit 3145728) (.consl (.lrep (.lit 64) (.cons (.lit 0) .nil)) (.consb (.tt true) (.cons (.lit 4194304) (.consl (.lrep (.lit 264) (.cons (.lit 0) .nil)) (.consb (.tt true) (.cons (.var 2) (.cons (.lit 2) .nil)))))))))))))) 7
(.br (.eq (.var 8) (.lit 0))
(.call 0 [.int .u64, .int .i64] (.cons (.lit 1048576) (.consl (.lvar 1) (.consb (.tt false) (.cons (.lit 2097152) (.consl (.lvar 0) (.consb (.tt true) (.cons (.lit 3145728) (.consl (.lrep (.lit 64) (.cons (.lit 0) .nil)) (.consb (.tt true) (.cons (.lit 4194304) (.consl (.lrep (.lit 264) (.cons (.lit 0) .nil)) (.consb (.tt true) (.cons (.var 2) (.cons (.lit 1) .nil)))))))))))))) 9
(.call 0 [.int .u64, .int .i64] (.cons (.lit 1048576) (.consl (.lvar 1) (.consb (.tt false) (.cons (.lit 2097152) (.consl (.lvar 0) (.consb (.tt true) (.cons (.lit 3145728) (.consl (.lrep (.lit 64) (.cons (.lit 0) .nil)) (.consb (.tt true) (.cons (.lit 4194304) (.consl (.lrep (.lit 264) (.cons (.lit 0) .nil)) (.consb (.tt true) (.cons (.bin .add .u64 (.var 2) (.lit 1)) (.cons (.lit 1) .nil)))))))))))))) 11
(.br (.eq (.var 10) (.lit 0))
(.br (.eq (.var 12) (.lit 0))
(.br (.eq (.var 7) (.bin .or .u64 (.bin .shl .u64 (.var 11) (.lit 8)) (.var 9)))
(.call 0 [.int .u64, .int .i64] (.cons (.lit 1048576) (.consl (.lvar 1) (.consb (.tt false) (.cons (.lit 2097152) (.consl (.lvar 0) (.consb (.tt true) (.cons (.lit 3145728) (.consl (.lrep (.lit 64) (.cons (.lit 0) .nil)) (.consb (.tt true) (.cons (.lit 4194304) (.consl (.lrep (.lit 264) (.cons (.lit 0) .nil)) (.consb (.tt true) (.cons (.var 2) (.cons (.lit 4) .nil)))))))))))))) 13
(.br (.eq (.var 14) (.lit 0))
(.call 0 [.int .u64, .int .i64] (.cons (.lit 1048576) (.consl (.lvar 1) (.consb (.tt false) (.cons (.lit 2097152) (.consl (.lvar 0) (.consb (.tt true) (.cons (.lit 3145728) (.consl (.lrep (.lit 64) (.cons (.lit 0) .nil)) (.consb (.tt true) (.cons (.lit 4194304) (.consl (.lrep (.lit 264) (.cons (.lit 0) .nil)) (.consb (.tt true) (.cons (.bin .add .u64 (.var 2) (.lit 2)) (.cons (.lit 2) .nil)))))))))))))) 15
(.br (.eq (.var 16) (.lit 0))
(.br (.eq (.var 13) (.bin .or .u64 (.bin .shl .u64 (.var 15) (.lit 16)) (.var 7)))
(.call 0 [.int .u64, .int .i64] (.cons (.lit 1048576) (.consl (.lvar 1) (.consb (.tt false) (.cons (.lit 2097152) (.consl (.lvar 0) (.consb (.tt true) (.cons (.lit 3145728) (.consl (.lrep (.lit 64) (.cons (.lit 0) .nil)) (.consb (.tt true) (.cons (.lit 4194304) (.consl (.lrep (.lit 264) (.cons (.lit 0) .nil)) (.consb (.tt true) (.cons (.var 2) (.cons (.lit 8) .nil)))))))))))))) 17
(.br (.eq (.var 18) (.lit 0))
(.call 0 [.int .u64, .int .i64] (.cons (.lit 1048576) (.consl (.lvar 1) (.consb (.tt false) (.cons (.lit 2097152) (.consl (.lvar 0) (.consb (.tt true) (.cons (.lit 3145728) (.consl (.lrep (.lit 64) (.cons (.lit 0) .nil)) (.consb (.tt true) (.cons (.lit 4194304) (.consl (.lrep (.lit 264) (.cons (.lit 0) .nil)) (.consb (.tt true) (.cons (.bin .add .u64 (.var 2) (.lit 4)) (.cons (.lit 4) .nil)))))))))))))) 19
(.br (.eq (.var 20) (.lit 0))
(.br (.eq (.var 17) (.bin .or .u64 (.bin .shl .u64 (.var 19) (.lit 32)) (.var 13)))
(.call 2 [.bool] .nil 21
(.leaf (.consb (.bvar 21) .nil)))
(.leaf (.consb (.tt false) .nil)))
(.leaf (.consb (.tt false) .nil))))
(.call 2 [.bool] .nil 19
(.leaf (.consb (.bvar 19) .nil)))))
(.leaf (.consb (.tt false) .nil)))
(.leaf (.consb (.tt false) .nil))))
(.call 0 [.int .u64, .int .i64] (.cons (.lit 1048576) (.consl (.lvar 1) (.consb (.tt false) (.cons (.lit 2097152) (.consl (.lvar 0) (.consb (.tt true) (.cons (.lit 3145728) (.consl (.lrep (.lit 64) (.cons (.lit 0) .nil)) (.consb (.tt true) (.cons (.lit 4194304) (.consl (.lrep (.lit 264) (.cons (.lit 0) .nil)) (.consb (.tt true) (.cons (.var 2) (.cons (.lit 8) .nil)))))))))))))) 15
(.br (.eq (.var 16) (.lit 0))
(.call 0 [.int .u64, .int .i64] (.cons (.lit 1048576) (.consl (.lvar 1) (.consb (.tt false) (.cons (.lit 2097152) (.consl (.lvar 0) (.consb (.tt true) (.cons (.lit 3145728) (.consl (.lrep (.lit 64) (.cons (.lit 0) .nil)) (.consb (.tt true) (.cons (.lit 4194304) (.consl (.lrep (.lit 264) (.cons (.lit 0) .nil)) (.consb (.tt true) (.cons (.bin .add .u64 (.var 2) (.lit 4)) (.cons (.lit 4) .nil)))))))))))))) 17
(.leaf (.consb (.tt false) .nil)))
(.call 2 [.bool] .nil 17
(.leaf (.consb (.bvar 17) .nil)))))))
(.leaf (.consb (.tt false) .nil)))
(.leaf (.consb (.tt false) .nil)))
(.leaf (.consb (.tt false) .nil)))))
(.call 0 [.int .u64, .int .i64] (.cons (.lit 1048576) (.consl (.lvar 1) (.consb (.tt false) (.cons (.lit 2097152) (.consl (.lvar 0) (.consb (.tt true) (.cons (.lit 3145728) (.consl (.lrep (.lit 64) (.cons (.lit 0) .nil)) (.consb (.tt true) (.cons (.lit 4194304) (.consl (.lrep (.lit 264) (.cons (.lit 0) .nil)) (.consb (.tt true) (.cons (.var 2) (.cons (.lit 4) .nil)))))))))))))) 9
(.br (.eq (.var 10) (.lit 0))
(.call 0 [.int .u64, .int .i64] (.cons (.lit 1048576) (.consl (.lvar 1) (.consb (.tt false) (.cons (.lit 2097152) (.consl (.lvar 0) (.consb (.tt true) (.cons (.lit 3145728) (.consl (.lrep (.lit 64) (.cons (.lit 0) .nil)) (.consb (.tt true) (.cons (.lit 4194304) (.consl (.lrep (.lit 264) (.cons (.lit 0) .nil)) (.consb (.tt true) (.cons (.bin .add .u64 (.var 2) (.lit 2)) (.cons (.lit 2) .nil)))))))))))))) 11
(.leaf (.consb (.tt false) .nil)))
(.call 0 [.int .u64, .int .i64] (.cons (.lit 1048576) (.consl (.lvar 1) (.consb (.tt false) (.cons (.lit 2097152) (.consl (.lvar 0) (.consb (.tt true) (.cons (.lit 3145728) (.consl (.lrep (.lit 64) (.cons (.lit 0) .nil)) (.consb (.tt true) (.cons (.lit 4194304) (.consl (.lrep (.lit 264) (.cons (.lit 0) .nil)) (.consb (.tt true) (.cons (.var 2) (.cons (.lit 8) .nil)))))))))))))) 11
(.br (.eq (.var 12) (.lit 0))
(.call 0 [.int .u64, .int .i64] (.cons (.lit 1048576) (.consl (.lvar 1) (.consb (.tt false) (.cons (.lit 2097152) (.consl (.lvar 0) (.consb (.tt true) (.cons (.lit 3145728) (.consl (.lrep (.lit 64) (.cons (.lit 0) .nil)) (.consb (.tt true) (.cons (.lit 4194304) (.consl (.lrep (.lit 264) (.cons (.lit 0) .nil)) (.consb (.tt true) (.cons (.bin .add .u64 (.var 2) (.lit 4)) (.cons (.lit 4) .nil)))))))))))))) 13
(.leaf (.consb (.tt false) .nil)))
(.call 2 [.bool] .nil 13
(.leaf (.consb (.bvar 13) .nil)))))))))
(.leaf (.consb (.tt false) .nil)))))
(.call 0 [.int .u64, .int .i64] (.cons (.lit 1048576) (.consl (.lvar 1) (.consb (.tt false) (.cons (.lit 2097152) (.consl (.lvar 0) (.consb (.tt true) (.cons (.lit 3145728) (.consl (.lrep (.lit 64) (.cons (.lit 0) .nil)) (.consb (.tt true) (.cons (.lit 4194304) (.consl (.lrep (.lit 264) (.cons (.lit 0) .nil)) (.consb (.tt true) (.cons (.var 2) (.cons (.lit 2) .nil)))))))))))))) 7
(.br (.eq (.var 8) (.lit 0))
(.call 0 [.int .u64, .int .i64] (.cons (.lit 1048576) (.consl (.lvar 1) (.consb (.tt false) (.cons (.lit 2097152) (.consl (.lvar 0) (.consb (.tt true) (.cons (.lit 3145728) (.consl (.lrep (.lit 64) (.cons (.lit 0) .nil)) (.consb (.tt true) (.cons (.lit 4194304) (.consl (.lrep (.lit 264) (.cons (.lit 0) .nil)) (.consb (.tt true) (.cons (.var 2) (.cons (.lit 1) .nil)))))))))))))) 9
(.call 0 [.int .u64, .int .i64] (.cons (.lit 1048576) (.consl (.lvar 1) (.consb (.tt false) (.cons (.lit 2097152) (.consl (.lvar 0) (.consb (.tt true) (.cons (.lit 3145728) (.consl (.lrep (.lit 64) (.cons (.lit 0) .nil)) (.consb (.tt true) (.cons (.lit 4194304) (.consl (.lrep (.lit 264) (.cons (.lit 0) .nil)) (.consb (.tt true) (.cons (.bin .add .u64 (.var 2) (.lit 1)) (.cons (.lit 1) .nil)))))))))))))) 11
(.br (.eq (.var 10) (.lit 0))
(.br (.eq (.var 12) (.lit 0))
(.br (.eq (.var 7) (.bin .or .u64 (.bin .shl .u64 (.var 11) (.lit 8)) (.var 9)))
(.call 0 [.int .u64, .int .i64] (.cons (.lit 1048576) (.consl (.lvar 1) (.consb (.tt false) (.cons (.lit 2097152) (.consl (.lvar 0) (.consb (.tt true) (.cons (.lit 3145728) (.consl (.lrep (.lit 64) (.cons (.lit 0) .nil)) (.consb (.tt true) (.cons (.lit 4194304) (.consl (.lrep (.lit 264) (.cons (.lit 0) .nil)) (.consb (.tt true) (.cons (.var 2) (.cons (.lit 4) .nil)))))))))))))) 13
(.br (.eq (.var 14) (.lit 0))
(.call 0 [.int .u64, .int .i64] (.cons (.lit 1048576) (.consl (.lvar 1) (.consb (.tt false) (.cons (.lit 2097152) (.consl (.lvar 0) (.consb (.tt true) (.cons (.lit 3145728) (.consl (.lrep (.lit 64) (.cons (.lit 0) .nil)) (.consb (.tt true) (.cons (.lit 4194304) (.consl (.lrep (.lit 264) (.cons (.lit 0) .nil)) (.consb (.tt true) (.cons (.bin .add .u64 (.var 2) (.lit 2)) (.cons (.lit 2) .nil)))))))))))))) 15
(.br (.eq (.var 16) (.lit 0))
(.br (.eq (.var 13) (.bin .or .u64 (.bin .shl .u64 (.var 15) (.lit 16)) (.var 7)))
(.call 0 [.int .u64, .int .i64] (.cons (.lit 1048576) (.consl (.lvar 1) (.consb (.tt false) (.cons (.lit 2097152) (.consl (.lvar 0) (.consb (.tt true) (.cons (.lit 3145728) (.consl (.lrep (.lit 64) (.cons (.lit 0) .nil)) (.consb (.tt true) (.cons (.lit 4194304) (.consl (.lrep (.lit 264) (.cons (.lit 0) .nil)) (.consb (.tt true) (.cons (.var 2) (.cons (.lit 8) .nil)))))))))))))) 17
(.br (.eq (.var 18) (.lit 0))
(.call 0 [.int .u64, .int .i64] (.cons (.lit 1048576) (.consl (.lvar 1) (.consb (.tt false) (.cons (.lit 2097152) (.consl (.lvar 0) (.consb (.tt true) (.cons (.lit 3145728) (.consl (.lrep (.lit 64) (.cons (.lit 0) .nil)) (.consb (.tt true) (.cons (.lit 4194304) (.consl (.lrep (.lit 264) (.cons (.lit 0) .nil)) (.consb (.tt true) (.cons (.bin .add .u64 (.var 2) (.lit 4)) (.cons (.lit 4) .nil)))))))))))))) 19
(.br (.eq (.var 20) (.lit 0))
(.br (.eq (.var 17) (.bin .or .u64 (.bin .shl .u64 (.var 19) (.lit 32)) (.var 13)))
(.call 2 [.bool] .nil 21
(.leaf (.consb (.bvar 21) .nil)))
(.leaf (.consb (.tt false) .nil)))
(.leaf (.consb (.tt false) .nil))))
(.call 2 [.bool] .nil 19
(.leaf (.consb (.bvar 19) .nil)))))
(.leaf (.consb (.tt false) .nil)))
(.leaf (.consb (.tt false) .nil))))
(.call 0 [.int .u64, .int .i64] (.cons (.lit 1048576) (.consl (.lvar 1) (.consb (.tt false) (.cons (.lit 2097152) (.consl (.lvar 0) (.consb (.tt true) (.cons (.lit 3145728) (.consl (.lrep (.lit 64) (.cons (.lit 0) .nil)) (.consb (.tt true) (.cons (.lit 4194304) (.consl (.lrep (.lit 264) (.cons (.lit 0) .nil)) (.consb (.tt true) (.cons (.var 2) (.cons (.lit 8) .nil)))))))))))))) 15
(.br (.eq (.var 16) (.lit 0))
(.call 0 [.int .u64, .int .i64] (.cons (.lit 1048576) (.consl (.lvar 1) (.consb (.tt false) (.cons (.lit 2097152) (.consl (.lvar 0) (.consb (.tt true) (.cons (.lit 3145728) (.consl (.lrep (.lit 64) (.cons (.lit 0) .nil)) (.consb (.tt true) (.cons (.lit 4194304) (.consl (.lrep (.lit 264) (.cons (.lit 0) .nil)) (.consb (.tt true) (.cons (.bin .add .u64 (.var 2) (.lit 4)) (.cons (.lit 4) .nil)))))))))))))) 17
(.leaf (.consb (.tt false) .nil)))
(.call 2 [.bool] .nil 17
(.leaf (.consb (.bvar 17) .nil)))))))
(.leaf (.consb (.tt false) .nil)))
(.leaf (.consb (.tt false) .nil)))
(.leaf (.consb (.tt false) .nil)))))
(.call 0 [.int .u64, .int .i64] (.cons (.lit 1048576) (.consl (.lvar 1) (.consb (.tt false) (.cons (.lit 2097152) (.consl (.lvar 0) (.consb (.tt true) (.cons (.lit 3145728) (.consl (.lrep (.lit 64) (.cons (.lit 0) .nil)) (.consb (.tt true) (.cons (.lit 4194304) (.consl (.lrep (.lit 264) (.cons (.lit 0) .nil)) (.consb (.tt true) (.cons (.var 2) (.cons (.lit 4) .nil)))))))))))))) 9
(.br (.eq (.var 10) (.lit 0))
(.call 0 [.int .u64, .int .i64] (.cons (.lit 1048576) (.consl (.lvar 1) (.consb (.tt false) (.cons (.lit 2097152) (.consl (.lvar 0) (.consb (.tt true) (.cons (.lit 3145728) (.consl (.lrep (.lit 64) (.cons (.lit 0) .nil)) (.consb (.tt true) (.cons (.lit 4194304) (.consl (.lrep (.lit 264) (.cons (.lit 0) .nil)) (.consb (.tt true) (.cons (.bin .add .u64 (.var 2) (.lit 2)) (.cons (.lit 2) .nil)))))))))))))) 11
(.leaf (.consb (.tt false) .nil)))
(.call 0 [.int .u64, .int .i64] (.cons (.lit 1048576) (.consl (.lvar 1) (.consb (.tt false) (.cons (.lit 2097152) (.consl (.lvar 0) (.consb (.tt true) (.cons (.lit 3145728) (.consl (.lrep (.lit 64) (.cons (.lit 0) .nil)) (.consb (.tt true) (.cons (.lit 4194304) (.consl (.lrep (.lit 264) (.cons (.lit 0) .nil)) (.consb (.tt true) (.cons (.var 2) (.cons (.lit 8) .nil)))))))))))))) 11
(.br (.eq (.var 12) (.lit 0))
(.call 0 [.int .u64, .int .i64] (.cons (.lit 1048576) (.consl (.lvar 1) (.consb (.tt false) (.cons (.lit 2097152) (.consl (.lvar 0) (.consb (.tt true) (.cons (.lit 3145728) (.consl (.lrep (.lit 64) (.cons (.lit 0) .nil)) (.consb (.tt true) (.cons (.lit 4194304) (.consl (.lrep (.lit 264) (.cons (.lit 0) .nil)) (.consb (.tt true) (.cons (.bin .add .u64 (.var 2) (.lit 4)) (.cons (.lit 4) .nil)))))))))))))) 13
(.leaf (.consb (.tt false) .nil)))
(.call 2 [.bool] .nil 13
(.leaf (.consb (.bvar 13) .nil))))))))))))
.panic)
.panic))))
def sP_mtails : Spec := ⟨fun k => match k with | 0 => sF_mread | 1 => sF_mfetch | 2 => sF_mwakes | _ => fun _ => [], fun k => match k with | 0 => sQ_mread | 1 => sQ_mfetch | _ => fun _ => True⟩
set_option maxRecDepth 100000 in
theorem sR_mtails : treeIs tys_MmE [sM_mread 0, sM_mfetch 1, sM_mwakes 2] [(13, Try.f13, [], []), (38, Try.f38, [], [])] [(999998, [])] [] 200 Try.f3 [.one (.sl [some .u8] 5), .one (.sl [some .u8] 5), .one (.int .u64)] [.one .bool] false [.list [some .u8], .list [some .u8], .int .u64] sT_mtails := ⟨by kernel_rfl, by kernel_rfl, by kernel_rfl⟩
set_option maxRecDepth 100000 in
set_option maxHeartbeats 8000000 in
theorem sX_mtails (x : List (List Int)) (hx : RowsIn [some .u8] x) (y : List (List Int)) (hy : RowsIn [some .u8] y) (at_ : Int) (hat_ : inK .u64 at_ = true) (ρ : Env) (g : varsD ρ 0 [.list [some .u8], .list [some .u8], .int .u64] = [.l x, .l y, .z at_]) : sT_mtails.asks sP_mtails (fun ρ e => e.D ρ = sF_mtails [.l x, .l y, .z at_]) ρ fun _ _ => False := by
  simp only [varsD, varD, List.cons.injEq, Dt.z.injEq, Dt.l.injEq, b2i_eq_iff, Nat.reduceAdd, and_true] at g
  simp only [sT_mtails, sP_mtails, sF_mread, sF_mfetch, sF_mwakes, sV_mread, sV_mfetch, sF_mtails, sV_mtails, sQ_mread, sQ_mfetch, Tr.asks, upd_same, okDs, okD, eqs, E.I, E.B, E.L, E.R, E.D, E.vs, dI, dB, dL, varD, varsD, List.getElem?_cons_zero, List.getElem?_cons_succ, List.cons_append, List.nil_append, Nat.zero_add, Nat.add_zero, Nat.reduceAdd, and_true, true_and, b2i_one, -eq_self, Mem.eta, g]
  obtain ⟨k0_l0, k0_l1, k0_i2⟩ := g
  refine ⟨fun c0 => ?_, fun c0 => ?_⟩
  intro e; (try simp only [e, Mem.eta, -eq_self]); clear e
  · first | rfl | exact absurd (of_decide_eq_true c0) (by omega)
  refine ⟨fun c1 => ?_, fun c1 => ?_⟩
  intro e; (try simp only [e, Mem.eta, -eq_self]); clear e
  · first | rfl | exact absurd (of_decide_eq_true c1) (by omega)
  refine ⟨fun c2 => ?_, fun c2 => ?_⟩
  · exact absurd (of_decide_eq_true c2) (by have := of_decide_eq_false c1; omega)
  refine ⟨fun c3 => ?_, fun c3 => ?_⟩
  refine ⟨fun c4 => ?_, fun c4 => ?_⟩
  refine ⟨?_, ?_⟩
  · exact memOf_fit (by have := of_decide_eq_false c0; omega) (by have := of_decide_eq_false c1; omega)
  intro e; (try simp only [e, Mem.eta, -eq_self]); clear e
  refine ⟨?_, ?_⟩
  · exact memOf_fit (by have := of_decide_eq_false c0; omega) (by have := of_decide_eq_false c1; omega)
  intro e; (try simp only [e, Mem.eta, -eq_self]); clear e
  refine ⟨fun c5 => ?_, fun c5 => ?_⟩
  refine ⟨fun c6 => ?_, fun c6 => ?_⟩
  · have hlx : x.length ≤ 256 := by have := of_decide_eq_false c0; omega
    have hly : y.length ≤ 16384 := by have := of_decide_eq_false c1; omega
    have hf := (memOf_fit hlx hly).lim
    have hr := memOf_rows hx hy
    have S1 := rd_split hf hr hat_ (n := 1) (.inl rfl)
    have S2 := rd_split hf hr hat_ (n := 2) (.inr (.inl rfl))
    have S4 := rd_split hf hr hat_ (n := 4) (.inr (.inr rfl))
    have T := ft_tail hf hat_
    simp only [memOf] at S1 S2 S4 T
    have h7 := (T (eqI c5)).1
    exact absurd (eqI c6) (fun h => h7 (Int.ofNat.inj h))
  refine ⟨fun c7 => ?_, fun c7 => ?_⟩
  refine ⟨fun c8 => ?_, fun c8 => ?_⟩
  · have hlx : x.length ≤ 256 := by have := of_decide_eq_false c0; omega
    have hly : y.length ≤ 16384 := by have := of_decide_eq_false c1; omega
    have hf := (memOf_fit hlx hly).lim
    have hr := memOf_rows hx hy
    have S1 := rd_split hf hr hat_ (n := 1) (.inl rfl)
    have S2 := rd_split hf hr hat_ (n := 2) (.inr (.inl rfl))
    have S4 := rd_split hf hr hat_ (n := 4) (.inr (.inr rfl))
    have T := ft_tail hf hat_
    simp only [memOf] at S1 S2 S4 T
    have h7 := (T (eqI c5)).1
    exact absurd (of_decide_eq_true c8) (fun h => h7 (by have h8 := Int.lt_add_one_iff.1 (show _ < (0 : Int) + 1 from h); exact Nat.le_zero.1 (Int.ofNat_le.1 h8)))
  refine ⟨fun c9 => ?_, fun c9 => ?_⟩
  refine ⟨?_, ?_⟩
  · exact memOf_fit (by have := of_decide_eq_false c0; omega) (by have := of_decide_eq_false c1; omega)
  intro e; (try simp only [e, Mem.eta, -eq_self]); clear e
  refine ⟨fun c10 => ?_, fun c10 => ?_⟩
  refine ⟨?_, ?_⟩
  · exact memOf_fit (by have := of_decide_eq_false c0; omega) (by have := of_decide_eq_false c1; omega)
  intro e; (try simp only [e, Mem.eta, -eq_self]); clear e
  refine ⟨?_, ?_⟩
  · exact memOf_fit (by have := of_decide_eq_false c0; omega) (by have := of_decide_eq_false c1; omega)
  intro e; (try simp only [e, Mem.eta, -eq_self]); clear e
  refine ⟨fun c11 => ?_, fun c11 => ?_⟩
  refine ⟨fun c12 => ?_, fun c12 => ?_⟩
  refine ⟨fun c13 => ?_, fun c13 => ?_⟩
  refine ⟨?_, ?_⟩
  · exact memOf_fit (by have := of_decide_eq_false c0; omega) (by have := of_decide_eq_false c1; omega)
  intro e; (try simp only [e, Mem.eta, -eq_self]); clear e
  refine ⟨fun c14 => ?_, fun c14 => ?_⟩
  refine ⟨?_, ?_⟩
  · exact memOf_fit (by have := of_decide_eq_false c0; omega) (by have := of_decide_eq_false c1; omega)
  intro e; (try simp only [e, Mem.eta, -eq_self]); clear e
  refine ⟨fun c15 => ?_, fun c15 => ?_⟩
  refine ⟨fun c16 => ?_, fun c16 => ?_⟩
  refine ⟨?_, ?_⟩
  · exact memOf_fit (by have := of_decide_eq_false c0; omega) (by have := of_decide_eq_false c1; omega)
  intro e; (try simp only [e, Mem.eta, -eq_self]); clear e
  refine ⟨fun c17 => ?_, fun c17 => ?_⟩
  refine ⟨?_, ?_⟩
  · exact memOf_fit (by have := of_decide_eq_false c0; omega) (by have := of_decide_eq_false c1; omega)
  intro e; (try simp only [e, Mem.eta, -eq_self]); clear e
  refine ⟨fun c18 => ?_, fun c18 => ?_⟩
  refine ⟨fun c19 => ?_, fun c19 => ?_⟩
  intro e; (try simp only [e, Mem.eta, -eq_self]); clear e
  · rfl
  · have hlx : x.length ≤ 256 := by have := of_decide_eq_false c0; omega
    have hly : y.length ≤ 16384 := by have := of_decide_eq_false c1; omega
    have hf := (memOf_fit hlx hly).lim
    have hr := memOf_rows hx hy
    have S1 := rd_split hf hr hat_ (n := 1) (.inl rfl)
    have S2 := rd_split hf hr hat_ (n := 2) (.inr (.inl rfl))
    have S4 := rd_split hf hr hat_ (n := 4) (.inr (.inr rfl))
    have T := ft_tail hf hat_
    simp only [memOf] at S1 S2 S4 T
    exact absurd (S4 (eqI c17)).2.2 (neI c19)
  · have hlx : x.length ≤ 256 := by have := of_decide_eq_false c0; omega
    have hly : y.length ≤ 16384 := by have := of_decide_eq_false c1; omega
    have hf := (memOf_fit hlx hly).lim
    have hr := memOf_rows hx hy
    have S1 := rd_split hf hr hat_ (n := 1) (.inl rfl)
    have S2 := rd_split hf hr hat_ (n := 2) (.inr (.inl rfl))
    have S4 := rd_split hf hr hat_ (n := 4) (.inr (.inr rfl))
    have T := ft_tail hf hat_
    simp only [memOf] at S1 S2 S4 T
    exact absurd (S4 (eqI c17)).2.1 (neI c18)
  intro e; (try simp only [e, Mem.eta, -eq_self]); clear e
  · rfl
  · have hlx : x.length ≤ 256 := by have := of_decide_eq_false c0; omega
    have hly : y.length ≤ 16384 := by have := of_decide_eq_false c1; omega
    have hf := (memOf_fit hlx hly).lim
    have hr := memOf_rows hx hy
    have S1 := rd_split hf hr hat_ (n := 1) (.inl rfl)
    have S2 := rd_split hf hr hat_ (n := 2) (.inr (.inl rfl))
    have S4 := rd_split hf hr hat_ (n := 4) (.inr (.inr rfl))
    have T := ft_tail hf hat_
    simp only [memOf] at S1 S2 S4 T
    exact absurd (S2 (eqI c14)).2.2 (neI c16)
  · have hlx : x.length ≤ 256 := by have := of_decide_eq_false c0; omega
    have hly : y.length ≤ 16384 := by have := of_decide_eq_false c1; omega
    have hf := (memOf_fit hlx hly).lim
    have hr := memOf_rows hx hy
    have S1 := rd_split hf hr hat_ (n := 1) (.inl rfl)
    have S2 := rd_split hf hr hat_ (n := 2) (.inr (.inl rfl))
    have S4 := rd_split hf hr hat_ (n := 4) (.inr (.inr rfl))
    have T := ft_tail hf hat_
    simp only [memOf] at S1 S2 S4 T
    exact absurd (S2 (eqI c14)).2.1 (neI c15)
  refine ⟨?_, ?_⟩
  · exact memOf_fit (by have := of_decide_eq_false c0; omega) (by have := of_decide_eq_false c1; omega)
  intro e; (try simp only [e, Mem.eta, -eq_self]); clear e
  refine ⟨fun c20 => ?_, fun c20 => ?_⟩
  refine ⟨?_, ?_⟩
  · exact memOf_fit (by have := of_decide_eq_false c0; omega) (by have := of_decide_eq_false c1; omega)
  intro e; (try simp only [e, Mem.eta, -eq_self]); clear e
  · have hlx : x.length ≤ 256 := by have := of_decide_eq_false c0; omega
    have hly : y.length ≤ 16384 := by have := of_decide_eq_false c1; omega
    have hf := (memOf_fit hlx hly).lim
    have hr := memOf_rows hx hy
    have S1 := rd_split hf hr hat_ (n := 1) (.inl rfl)
    have S2 := rd_split hf hr hat_ (n := 2) (.inr (.inl rfl))
    have S4 := rd_split hf hr hat_ (n := 4) (.inr (.inr rfl))
    have T := ft_tail hf hat_
    simp only [memOf] at S1 S2 S4 T
    exact absurd (S4 (eqI c20)).1 (neI c14)
  intro e; (try simp only [e, Mem.eta, -eq_self]); clear e
  · rfl
  · have hlx : x.length ≤ 256 := by have := of_decide_eq_false c0; omega
    have hly : y.length ≤ 16384 := by have := of_decide_eq_false c1; omega
    have hf := (memOf_fit hlx hly).lim
    have hr := memOf_rows hx hy
    have S1 := rd_split hf hr hat_ (n := 1) (.inl rfl)
    have S2 := rd_split hf hr hat_ (n := 2) (.inr (.inl rfl))
    have S4 := rd_split hf hr hat_ (n := 4) (.inr (.inr rfl))
    have T := ft_tail hf hat_
    simp only [memOf] at S1 S2 S4 T
    exact absurd (S1 (eqI c10)).2.2 (neI c13)
  · have hlx : x.length ≤ 256 := by have := of_decide_eq_false c0; omega
    have hly : y.length ≤ 16384 := by have := of_decide_eq_false c1; omega
    have hf := (memOf_fit hlx hly).lim
    have hr := memOf_rows hx hy
    have S1 := rd_split hf hr hat_ (n := 1) (.inl rfl)
    have S2 := rd_split hf hr hat_ (n := 2) (.inr (.inl rfl))
    have S4 := rd_split hf hr hat_ (n := 4) (.inr (.inr rfl))
    have T := ft_tail hf hat_
    simp only [memOf] at S1 S2 S4 T
    exact absurd (S1 (eqI c10)).2.1 (neI c12)
  · have hlx : x.length ≤ 256 := by have := of_decide_eq_false c0; omega
    have hly : y.length ≤ 16384 := by have := of_decide_eq_false c1; omega
    have hf := (memOf_fit hlx hly).lim
    have hr := memOf_rows hx hy
    have S1 := rd_split hf hr hat_ (n := 1) (.inl rfl)
    have S2 := rd_split hf hr hat_ (n := 2) (.inr (.inl rfl))
    have S4 := rd_split hf hr hat_ (n := 4) (.inr (.inr rfl))
    have T := ft_tail hf hat_
    simp only [memOf] at S1 S2 S4 T
    exact absurd (S1 (eqI c10)).1 (neI c11)
  refine ⟨?_, ?_⟩
  · exact memOf_fit (by have := of_decide_eq_false c0; omega) (by have := of_decide_eq_false c1; omega)
  intro e; (try simp only [e, Mem.eta, -eq_self]); clear e
  refine ⟨fun c21 => ?_, fun c21 => ?_⟩
  refine ⟨?_, ?_⟩
  · exact memOf_fit (by have := of_decide_eq_false c0; omega) (by have := of_decide_eq_false c1; omega)
  intro e; (try simp only [e, Mem.eta, -eq_self]); clear e
  · have hlx : x.length ≤ 256 := by have := of_decide_eq_false c0; omega
    have hly : y.length ≤ 16384 := by have := of_decide_eq_false c1; omega
    have hf := (memOf_fit hlx hly).lim
    have hr := memOf_rows hx hy
    have S1 := rd_split hf hr hat_ (n := 1) (.inl rfl)
    have S2 := rd_split hf hr hat_ (n := 2) (.inr (.inl rfl))
    have S4 := rd_split hf hr hat_ (n := 4) (.inr (.inr rfl))
    have T := ft_tail hf hat_
    simp only [memOf] at S1 S2 S4 T
    exact absurd (S2 (eqI c21)).1 (neI c10)
  refine ⟨?_, ?_⟩
  · exact memOf_fit (by have := of_decide_eq_false c0; omega) (by have := of_decide_eq_false c1; omega)
  intro e; (try simp only [e, Mem.eta, -eq_self]); clear e
  refine ⟨fun c22 => ?_, fun c22 => ?_⟩
  refine ⟨?_, ?_⟩
  · exact memOf_fit (by have := of_decide_eq_false c0; omega) (by have := of_decide_eq_false c1; omega)
  intro e; (try simp only [e, Mem.eta, -eq_self]); clear e
  · have hlx : x.length ≤ 256 := by have := of_decide_eq_false c0; omega
    have hly : y.length ≤ 16384 := by have := of_decide_eq_false c1; omega
    have hf := (memOf_fit hlx hly).lim
    have hr := memOf_rows hx hy
    have S1 := rd_split hf hr hat_ (n := 1) (.inl rfl)
    have S2 := rd_split hf hr hat_ (n := 2) (.inr (.inl rfl))
    have S4 := rd_split hf hr hat_ (n := 4) (.inr (.inr rfl))
    have T := ft_tail hf hat_
    simp only [memOf] at S1 S2 S4 T
    exact absurd (S4 (eqI c22)).1 (neI c21)
  intro e; (try simp only [e, Mem.eta, -eq_self]); clear e
  · rfl
  · have hlx : x.length ≤ 256 := by have := of_decide_eq_false c0; omega
    have hly : y.length ≤ 16384 := by have := of_decide_eq_false c1; omega
    have hf := (memOf_fit hlx hly).lim
    have hr := memOf_rows hx hy
    have S1 := rd_split hf hr hat_ (n := 1) (.inl rfl)
    have S2 := rd_split hf hr hat_ (n := 2) (.inr (.inl rfl))
    have S4 := rd_split hf hr hat_ (n := 4) (.inr (.inr rfl))
    have T := ft_tail hf hat_
    simp only [memOf] at S1 S2 S4 T
    have h7 := (T (eqI c5)).2.1 (eqI c7)
    exact absurd (beq_iff_eq.2 h7) (fun h => Bool.noConfusion (h.symm.trans c9))
  refine ⟨fun c23 => ?_, fun c23 => ?_⟩
  refine ⟨?_, ?_⟩
  · exact memOf_fit (by have := of_decide_eq_false c0; omega) (by have := of_decide_eq_false c1; omega)
  intro e; (try simp only [e, Mem.eta, -eq_self]); clear e
  refine ⟨fun c24 => ?_, fun c24 => ?_⟩
  refine ⟨?_, ?_⟩
  · exact memOf_fit (by have := of_decide_eq_false c0; omega) (by have := of_decide_eq_false c1; omega)
  intro e; (try simp only [e, Mem.eta, -eq_self]); clear e
  refine ⟨?_, ?_⟩
  · exact memOf_fit (by have := of_decide_eq_false c0; omega) (by have := of_decide_eq_false c1; omega)
  intro e; (try simp only [e, Mem.eta, -eq_self]); clear e
  refine ⟨fun c25 => ?_, fun c25 => ?_⟩
  refine ⟨fun c26 => ?_, fun c26 => ?_⟩
  refine ⟨fun c27 => ?_, fun c27 => ?_⟩
  refine ⟨?_, ?_⟩
  · exact memOf_fit (by have := of_decide_eq_false c0; omega) (by have := of_decide_eq_false c1; omega)
  intro e; (try simp only [e, Mem.eta, -eq_self]); clear e
  refine ⟨fun c28 => ?_, fun c28 => ?_⟩
  refine ⟨?_, ?_⟩
  · exact memOf_fit (by have := of_decide_eq_false c0; omega) (by have := of_decide_eq_false c1; omega)
  intro e; (try simp only [e, Mem.eta, -eq_self]); clear e
  refine ⟨fun c29 => ?_, fun c29 => ?_⟩
  refine ⟨fun c30 => ?_, fun c30 => ?_⟩
  refine ⟨?_, ?_⟩
  · exact memOf_fit (by have := of_decide_eq_false c0; omega) (by have := of_decide_eq_false c1; omega)
  intro e; (try simp only [e, Mem.eta, -eq_self]); clear e
  refine ⟨fun c31 => ?_, fun c31 => ?_⟩
  refine ⟨?_, ?_⟩
  · exact memOf_fit (by have := of_decide_eq_false c0; omega) (by have := of_decide_eq_false c1; omega)
  intro e; (try simp only [e, Mem.eta, -eq_self]); clear e
  refine ⟨fun c32 => ?_, fun c32 => ?_⟩
  refine ⟨fun c33 => ?_, fun c33 => ?_⟩
  intro e; (try simp only [e, Mem.eta, -eq_self]); clear e
  · rfl
  · have hlx : x.length ≤ 256 := by have := of_decide_eq_false c0; omega
    have hly : y.length ≤ 16384 := by have := of_decide_eq_false c1; omega
    have hf := (memOf_fit hlx hly).lim
    have hr := memOf_rows hx hy
    have S1 := rd_split hf hr hat_ (n := 1) (.inl rfl)
    have S2 := rd_split hf hr hat_ (n := 2) (.inr (.inl rfl))
    have S4 := rd_split hf hr hat_ (n := 4) (.inr (.inr rfl))
    have T := ft_tail hf hat_
    simp only [memOf] at S1 S2 S4 T
    exact absurd (S4 (eqI c31)).2.2 (neI c33)
  · have hlx : x.length ≤ 256 := by have := of_decide_eq_false c0; omega
    have hly : y.length ≤ 16384 := by have := of_decide_eq_false c1; omega
    have hf := (memOf_fit hlx hly).lim
    have hr := memOf_rows hx hy
    have S1 := rd_split hf hr hat_ (n := 1) (.inl rfl)
    have S2 := rd_split hf hr hat_ (n := 2) (.inr (.inl rfl))
    have S4 := rd_split hf hr hat_ (n := 4) (.inr (.inr rfl))
    have T := ft_tail hf hat_
    simp only [memOf] at S1 S2 S4 T
    exact absurd (S4 (eqI c31)).2.1 (neI c32)
  intro e; (try simp only [e, Mem.eta, -eq_self]); clear e
  · rfl
  · have hlx : x.length ≤ 256 := by have := of_decide_eq_false c0; omega
    have hly : y.length ≤ 16384 := by have := of_decide_eq_false c1; omega
    have hf := (memOf_fit hlx hly).lim
    have hr := memOf_rows hx hy
    have S1 := rd_split hf hr hat_ (n := 1) (.inl rfl)
    have S2 := rd_split hf hr hat_ (n := 2) (.inr (.inl rfl))
    have S4 := rd_split hf hr hat_ (n := 4) (.inr (.inr rfl))
    have T := ft_tail hf hat_
    simp only [memOf] at S1 S2 S4 T
    exact absurd (S2 (eqI c28)).2.2 (neI c30)
  · have hlx : x.length ≤ 256 := by have := of_decide_eq_false c0; omega
    have hly : y.length ≤ 16384 := by have := of_decide_eq_false c1; omega
    have hf := (memOf_fit hlx hly).lim
    have hr := memOf_rows hx hy
    have S1 := rd_split hf hr hat_ (n := 1) (.inl rfl)
    have S2 := rd_split hf hr hat_ (n := 2) (.inr (.inl rfl))
    have S4 := rd_split hf hr hat_ (n := 4) (.inr (.inr rfl))
    have T := ft_tail hf hat_
    simp only [memOf] at S1 S2 S4 T
    exact absurd (S2 (eqI c28)).2.1 (neI c29)
  refine ⟨?_, ?_⟩
  · exact memOf_fit (by have := of_decide_eq_false c0; omega) (by have := of_decide_eq_false c1; omega)
  intro e; (try simp only [e, Mem.eta, -eq_self]); clear e
  refine ⟨fun c34 => ?_, fun c34 => ?_⟩
  refine ⟨?_, ?_⟩
  · exact memOf_fit (by have := of_decide_eq_false c0; omega) (by have := of_decide_eq_false c1; omega)
  intro e; (try simp only [e, Mem.eta, -eq_self]); clear e
  · have hlx : x.length ≤ 256 := by have := of_decide_eq_false c0; omega
    have hly : y.length ≤ 16384 := by have := of_decide_eq_false c1; omega
    have hf := (memOf_fit hlx hly).lim
    have hr := memOf_rows hx hy
    have S1 := rd_split hf hr hat_ (n := 1) (.inl rfl)
    have S2 := rd_split hf hr hat_ (n := 2) (.inr (.inl rfl))
    have S4 := rd_split hf hr hat_ (n := 4) (.inr (.inr rfl))
    have T := ft_tail hf hat_
    simp only [memOf] at S1 S2 S4 T
    exact absurd (S4 (eqI c34)).1 (neI c28)
  intro e; (try simp only [e, Mem.eta, -eq_self]); clear e
  · rfl
  · have hlx : x.length ≤ 256 := by have := of_decide_eq_false c0; omega
    have hly : y.length ≤ 16384 := by have := of_decide_eq_false c1; omega
    have hf := (memOf_fit hlx hly).lim
    have hr := memOf_rows hx hy
    have S1 := rd_split hf hr hat_ (n := 1) (.inl rfl)
    have S2 := rd_split hf hr hat_ (n := 2) (.inr (.inl rfl))
    have S4 := rd_split hf hr hat_ (n := 4) (.inr (.inr rfl))
    have T := ft_tail hf hat_
    simp only [memOf] at S1 S2 S4 T
    exact absurd (S1 (eqI c24)).2.2 (neI c27)
  · have hlx : x.length ≤ 256 := by have := of_decide_eq_false c0; omega
    have hly : y.length ≤ 16384 := by have := of_decide_eq_false c1; omega
    have hf := (memOf_fit hlx hly).lim
    have hr := memOf_rows hx hy
    have S1 := rd_split hf hr hat_ (n := 1) (.inl rfl)
    have S2 := rd_split hf hr hat_ (n := 2) (.inr (.inl rfl))
    have S4 := rd_split hf hr hat_ (n := 4) (.inr (.inr rfl))
    have T := ft_tail hf hat_
    simp only [memOf] at S1 S2 S4 T
    exact absurd (S1 (eqI c24)).2.1 (neI c26)
  · have hlx : x.length ≤ 256 := by have := of_decide_eq_false c0; omega
    have hly : y.length ≤ 16384 := by have := of_decide_eq_false c1; omega
    have hf := (memOf_fit hlx hly).lim
    have hr := memOf_rows hx hy
    have S1 := rd_split hf hr hat_ (n := 1) (.inl rfl)
    have S2 := rd_split hf hr hat_ (n := 2) (.inr (.inl rfl))
    have S4 := rd_split hf hr hat_ (n := 4) (.inr (.inr rfl))
    have T := ft_tail hf hat_
    simp only [memOf] at S1 S2 S4 T
    exact absurd (S1 (eqI c24)).1 (neI c25)
  refine ⟨?_, ?_⟩
  · exact memOf_fit (by have := of_decide_eq_false c0; omega) (by have := of_decide_eq_false c1; omega)
  intro e; (try simp only [e, Mem.eta, -eq_self]); clear e
  refine ⟨fun c35 => ?_, fun c35 => ?_⟩
  refine ⟨?_, ?_⟩
  · exact memOf_fit (by have := of_decide_eq_false c0; omega) (by have := of_decide_eq_false c1; omega)
  intro e; (try simp only [e, Mem.eta, -eq_self]); clear e
  · have hlx : x.length ≤ 256 := by have := of_decide_eq_false c0; omega
    have hly : y.length ≤ 16384 := by have := of_decide_eq_false c1; omega
    have hf := (memOf_fit hlx hly).lim
    have hr := memOf_rows hx hy
    have S1 := rd_split hf hr hat_ (n := 1) (.inl rfl)
    have S2 := rd_split hf hr hat_ (n := 2) (.inr (.inl rfl))
    have S4 := rd_split hf hr hat_ (n := 4) (.inr (.inr rfl))
    have T := ft_tail hf hat_
    simp only [memOf] at S1 S2 S4 T
    exact absurd (S2 (eqI c35)).1 (neI c24)
  refine ⟨?_, ?_⟩
  · exact memOf_fit (by have := of_decide_eq_false c0; omega) (by have := of_decide_eq_false c1; omega)
  intro e; (try simp only [e, Mem.eta, -eq_self]); clear e
  refine ⟨fun c36 => ?_, fun c36 => ?_⟩
  refine ⟨?_, ?_⟩
  · exact memOf_fit (by have := of_decide_eq_false c0; omega) (by have := of_decide_eq_false c1; omega)
  intro e; (try simp only [e, Mem.eta, -eq_self]); clear e
  · have hlx : x.length ≤ 256 := by have := of_decide_eq_false c0; omega
    have hly : y.length ≤ 16384 := by have := of_decide_eq_false c1; omega
    have hf := (memOf_fit hlx hly).lim
    have hr := memOf_rows hx hy
    have S1 := rd_split hf hr hat_ (n := 1) (.inl rfl)
    have S2 := rd_split hf hr hat_ (n := 2) (.inr (.inl rfl))
    have S4 := rd_split hf hr hat_ (n := 4) (.inr (.inr rfl))
    have T := ft_tail hf hat_
    simp only [memOf] at S1 S2 S4 T
    exact absurd (S4 (eqI c36)).1 (neI c35)
  intro e; (try simp only [e, Mem.eta, -eq_self]); clear e
  · rfl
  · have hlx : x.length ≤ 256 := by have := of_decide_eq_false c0; omega
    have hly : y.length ≤ 16384 := by have := of_decide_eq_false c1; omega
    have hf := (memOf_fit hlx hly).lim
    have hr := memOf_rows hx hy
    have S1 := rd_split hf hr hat_ (n := 1) (.inl rfl)
    have S2 := rd_split hf hr hat_ (n := 2) (.inr (.inl rfl))
    have S4 := rd_split hf hr hat_ (n := 4) (.inr (.inr rfl))
    have T := ft_tail hf hat_
    simp only [memOf] at S1 S2 S4 T
    have h7 := (T (eqI c5)).2.2 (neI c7)
    exact absurd (congrArg (fun z : Nat => (z : Int)) h7) (neI c23)
  refine ⟨?_, ?_⟩
  · exact memOf_fit (by have := of_decide_eq_false c0; omega) (by have := of_decide_eq_false c1; omega)
  intro e; (try simp only [e, Mem.eta, -eq_self]); clear e
  refine ⟨fun c37 => ?_, fun c37 => ?_⟩
  refine ⟨?_, ?_⟩
  · exact memOf_fit (by have := of_decide_eq_false c0; omega) (by have := of_decide_eq_false c1; omega)
  intro e; (try simp only [e, Mem.eta, -eq_self]); clear e
  refine ⟨?_, ?_⟩
  · exact memOf_fit (by have := of_decide_eq_false c0; omega) (by have := of_decide_eq_false c1; omega)
  intro e; (try simp only [e, Mem.eta, -eq_self]); clear e
  refine ⟨fun c38 => ?_, fun c38 => ?_⟩
  refine ⟨fun c39 => ?_, fun c39 => ?_⟩
  refine ⟨fun c40 => ?_, fun c40 => ?_⟩
  refine ⟨?_, ?_⟩
  · exact memOf_fit (by have := of_decide_eq_false c0; omega) (by have := of_decide_eq_false c1; omega)
  intro e; (try simp only [e, Mem.eta, -eq_self]); clear e
  refine ⟨fun c41 => ?_, fun c41 => ?_⟩
  refine ⟨?_, ?_⟩
  · exact memOf_fit (by have := of_decide_eq_false c0; omega) (by have := of_decide_eq_false c1; omega)
  intro e; (try simp only [e, Mem.eta, -eq_self]); clear e
  refine ⟨fun c42 => ?_, fun c42 => ?_⟩
  refine ⟨fun c43 => ?_, fun c43 => ?_⟩
  refine ⟨?_, ?_⟩
  · exact memOf_fit (by have := of_decide_eq_false c0; omega) (by have := of_decide_eq_false c1; omega)
  intro e; (try simp only [e, Mem.eta, -eq_self]); clear e
  refine ⟨fun c44 => ?_, fun c44 => ?_⟩
  refine ⟨?_, ?_⟩
  · exact memOf_fit (by have := of_decide_eq_false c0; omega) (by have := of_decide_eq_false c1; omega)
  intro e; (try simp only [e, Mem.eta, -eq_self]); clear e
  refine ⟨fun c45 => ?_, fun c45 => ?_⟩
  refine ⟨fun c46 => ?_, fun c46 => ?_⟩
  intro e; (try simp only [e, Mem.eta, -eq_self]); clear e
  · rfl
  · have hlx : x.length ≤ 256 := by have := of_decide_eq_false c0; omega
    have hly : y.length ≤ 16384 := by have := of_decide_eq_false c1; omega
    have hf := (memOf_fit hlx hly).lim
    have hr := memOf_rows hx hy
    have S1 := rd_split hf hr hat_ (n := 1) (.inl rfl)
    have S2 := rd_split hf hr hat_ (n := 2) (.inr (.inl rfl))
    have S4 := rd_split hf hr hat_ (n := 4) (.inr (.inr rfl))
    have T := ft_tail hf hat_
    simp only [memOf] at S1 S2 S4 T
    exact absurd (S4 (eqI c44)).2.2 (neI c46)
  · have hlx : x.length ≤ 256 := by have := of_decide_eq_false c0; omega
    have hly : y.length ≤ 16384 := by have := of_decide_eq_false c1; omega
    have hf := (memOf_fit hlx hly).lim
    have hr := memOf_rows hx hy
    have S1 := rd_split hf hr hat_ (n := 1) (.inl rfl)
    have S2 := rd_split hf hr hat_ (n := 2) (.inr (.inl rfl))
    have S4 := rd_split hf hr hat_ (n := 4) (.inr (.inr rfl))
    have T := ft_tail hf hat_
    simp only [memOf] at S1 S2 S4 T
    exact absurd (S4 (eqI c44)).2.1 (neI c45)
  intro e; (try simp only [e, Mem.eta, -eq_self]); clear e
  · rfl
  · have hlx : x.length ≤ 256 := by have := of_decide_eq_false c0; omega
    have hly : y.length ≤ 16384 := by have := of_decide_eq_false c1; omega
    have hf := (memOf_fit hlx hly).lim
    have hr := memOf_rows hx hy
    have S1 := rd_split hf hr hat_ (n := 1) (.inl rfl)
    have S2 := rd_split hf hr hat_ (n := 2) (.inr (.inl rfl))
    have S4 := rd_split hf hr hat_ (n := 4) (.inr (.inr rfl))
    have T := ft_tail hf hat_
    simp only [memOf] at S1 S2 S4 T
    exact absurd (S2 (eqI c41)).2.2 (neI c43)
  · have hlx : x.length ≤ 256 := by have := of_decide_eq_false c0; omega
    have hly : y.length ≤ 16384 := by have := of_decide_eq_false c1; omega
    have hf := (memOf_fit hlx hly).lim
    have hr := memOf_rows hx hy
    have S1 := rd_split hf hr hat_ (n := 1) (.inl rfl)
    have S2 := rd_split hf hr hat_ (n := 2) (.inr (.inl rfl))
    have S4 := rd_split hf hr hat_ (n := 4) (.inr (.inr rfl))
    have T := ft_tail hf hat_
    simp only [memOf] at S1 S2 S4 T
    exact absurd (S2 (eqI c41)).2.1 (neI c42)
  refine ⟨?_, ?_⟩
  · exact memOf_fit (by have := of_decide_eq_false c0; omega) (by have := of_decide_eq_false c1; omega)
  intro e; (try simp only [e, Mem.eta, -eq_self]); clear e
  refine ⟨fun c47 => ?_, fun c47 => ?_⟩
  refine ⟨?_, ?_⟩
  · exact memOf_fit (by have := of_decide_eq_false c0; omega) (by have := of_decide_eq_false c1; omega)
  intro e; (try simp only [e, Mem.eta, -eq_self]); clear e
  · have hlx : x.length ≤ 256 := by have := of_decide_eq_false c0; omega
    have hly : y.length ≤ 16384 := by have := of_decide_eq_false c1; omega
    have hf := (memOf_fit hlx hly).lim
    have hr := memOf_rows hx hy
    have S1 := rd_split hf hr hat_ (n := 1) (.inl rfl)
    have S2 := rd_split hf hr hat_ (n := 2) (.inr (.inl rfl))
    have S4 := rd_split hf hr hat_ (n := 4) (.inr (.inr rfl))
    have T := ft_tail hf hat_
    simp only [memOf] at S1 S2 S4 T
    exact absurd (S4 (eqI c47)).1 (neI c41)
  intro e; (try simp only [e, Mem.eta, -eq_self]); clear e
  · rfl
  · have hlx : x.length ≤ 256 := by have := of_decide_eq_false c0; omega
    have hly : y.length ≤ 16384 := by have := of_decide_eq_false c1; omega
    have hf := (memOf_fit hlx hly).lim
    have hr := memOf_rows hx hy
    have S1 := rd_split hf hr hat_ (n := 1) (.inl rfl)
    have S2 := rd_split hf hr hat_ (n := 2) (.inr (.inl rfl))
    have S4 := rd_split hf hr hat_ (n := 4) (.inr (.inr rfl))
    have T := ft_tail hf hat_
    simp only [memOf] at S1 S2 S4 T
    exact absurd (S1 (eqI c37)).2.2 (neI c40)
  · have hlx : x.length ≤ 256 := by have := of_decide_eq_false c0; omega
    have hly : y.length ≤ 16384 := by have := of_decide_eq_false c1; omega
    have hf := (memOf_fit hlx hly).lim
    have hr := memOf_rows hx hy
    have S1 := rd_split hf hr hat_ (n := 1) (.inl rfl)
    have S2 := rd_split hf hr hat_ (n := 2) (.inr (.inl rfl))
    have S4 := rd_split hf hr hat_ (n := 4) (.inr (.inr rfl))
    have T := ft_tail hf hat_
    simp only [memOf] at S1 S2 S4 T
    exact absurd (S1 (eqI c37)).2.1 (neI c39)
  · have hlx : x.length ≤ 256 := by have := of_decide_eq_false c0; omega
    have hly : y.length ≤ 16384 := by have := of_decide_eq_false c1; omega
    have hf := (memOf_fit hlx hly).lim
    have hr := memOf_rows hx hy
    have S1 := rd_split hf hr hat_ (n := 1) (.inl rfl)
    have S2 := rd_split hf hr hat_ (n := 2) (.inr (.inl rfl))
    have S4 := rd_split hf hr hat_ (n := 4) (.inr (.inr rfl))
    have T := ft_tail hf hat_
    simp only [memOf] at S1 S2 S4 T
    exact absurd (S1 (eqI c37)).1 (neI c38)
  refine ⟨?_, ?_⟩
  · exact memOf_fit (by have := of_decide_eq_false c0; omega) (by have := of_decide_eq_false c1; omega)
  intro e; (try simp only [e, Mem.eta, -eq_self]); clear e
  refine ⟨fun c48 => ?_, fun c48 => ?_⟩
  refine ⟨?_, ?_⟩
  · exact memOf_fit (by have := of_decide_eq_false c0; omega) (by have := of_decide_eq_false c1; omega)
  intro e; (try simp only [e, Mem.eta, -eq_self]); clear e
  · have hlx : x.length ≤ 256 := by have := of_decide_eq_false c0; omega
    have hly : y.length ≤ 16384 := by have := of_decide_eq_false c1; omega
    have hf := (memOf_fit hlx hly).lim
    have hr := memOf_rows hx hy
    have S1 := rd_split hf hr hat_ (n := 1) (.inl rfl)
    have S2 := rd_split hf hr hat_ (n := 2) (.inr (.inl rfl))
    have S4 := rd_split hf hr hat_ (n := 4) (.inr (.inr rfl))
    have T := ft_tail hf hat_
    simp only [memOf] at S1 S2 S4 T
    exact absurd (S2 (eqI c48)).1 (neI c37)
  refine ⟨?_, ?_⟩
  · exact memOf_fit (by have := of_decide_eq_false c0; omega) (by have := of_decide_eq_false c1; omega)
  intro e; (try simp only [e, Mem.eta, -eq_self]); clear e
  refine ⟨fun c49 => ?_, fun c49 => ?_⟩
  refine ⟨?_, ?_⟩
  · exact memOf_fit (by have := of_decide_eq_false c0; omega) (by have := of_decide_eq_false c1; omega)
  intro e; (try simp only [e, Mem.eta, -eq_self]); clear e
  · have hlx : x.length ≤ 256 := by have := of_decide_eq_false c0; omega
    have hly : y.length ≤ 16384 := by have := of_decide_eq_false c1; omega
    have hf := (memOf_fit hlx hly).lim
    have hr := memOf_rows hx hy
    have S1 := rd_split hf hr hat_ (n := 1) (.inl rfl)
    have S2 := rd_split hf hr hat_ (n := 2) (.inr (.inl rfl))
    have S4 := rd_split hf hr hat_ (n := 4) (.inr (.inr rfl))
    have T := ft_tail hf hat_
    simp only [memOf] at S1 S2 S4 T
    exact absurd (S4 (eqI c49)).1 (neI c48)
  intro e; (try simp only [e, Mem.eta, -eq_self]); clear e
  · rfl
  · exact absurd (of_decide_eq_false c4) (by have := of_decide_eq_false c0; have := of_decide_eq_false c1; omega)
  · exact absurd (of_decide_eq_false c3) (by have := of_decide_eq_false c0; have := of_decide_eq_false c1; omega)
theorem sC_mtails (xs : List Dt) (vals : List Value) (w : World) (hw : shRel w [.one (.sl [some .u8] 5), .one (.sl [some .u8] 5), .one (.int .u64)] xs vals) : Calls Try.prog 3 vals.toArray w fun e w' => ∃ v, e = .returned v ∧ RetOk [.one .bool] false w w' (sF_mtails xs) v :=
  (fun_calls (by kernel_rfl) tysok_MmE (smc (sK_mread rfl rfl) (smc (sK_mfetch rfl rfl) (smc (sK_mwakes rfl) sm0))) Try.func3 (fnc Try.func13 (fnc Try.func38 fn0)) sR_mtails (pre := fun _ => True) (fun x0 gx0 x1 gx1 x2 gx2 hp ρ g => sX_mtails x0 gx0 x1 gx1 x2 gx2 ρ g) xs vals w hw trivial).2
set_option maxRecDepth 100000 in
set_option maxHeartbeats 8000000 in
theorem law_MemTails {H : Type} {enc : TypeId × Value → H} {W : World} {r : Reach} {b0 : Nat} (v0 : Value) (k0 : Value.okWide Try.prog W r b0 22 v0) (d0 : DataW H) (p0 : List MemPlace) (h0 : DataW.Trod enc Try.prog W 0 (fun _ => true) true 22 v0 d0 p0) (_ : ∀ x ∈ p0, x.block < W.heap.size) (v1 : Value) (k1 : Value.okWide Try.prog W r b0 22 v1) (d1 : DataW H) (p1 : List MemPlace) (h1 : DataW.Trod enc Try.prog W 0 (fun _ => true) true 22 v1 d1 p1) (_ : ∀ x ∈ p1, x.block < W.heap.size) (a2 : Int) (w2 : (Lit.int .u64 a2).wf = true) :
    Calls Try.prog 3 #[v0, v1, .int .u64 a2] W fun e W' => e = .returned (.bool true) ∧ Below W.heap.size W W' := by
  obtain ⟨q0, s0, rfl, n0, m0, o0, l0⟩ := sl_of_arg rwU8 (by decide) Try.underlying22 k0 h0
  obtain ⟨q1, s1, rfl, n1, m1, o1, l1⟩ := sl_of_arg rwU8 (by decide) Try.underlying22 k1 h1
  refine (sC_mtails (.l q0 :: ( .l q1 :: ( .z a2 :: ([])))) _ W ⟨_, _, _, rfl, ⟨_, _, rfl, rfl, n0, m0, o0, l0⟩, ⟨_, _, _, rfl, ⟨_, _, rfl, rfl, n1, m1, o1, l1⟩, ⟨_, _, _, rfl, ⟨_, rfl, rfl, (inK_of_wf w2)⟩, ⟨rfl, rfl⟩⟩⟩⟩).mono fun e W' ⟨v, he, hr⟩ => ?_
  have hv : v = .bool true := RetOk.says hr
  rw [he, hv]
  exact ⟨rfl, hr.ext⟩
end Go.Proofs.Ytmabagpagmcnlaa
