/- The law MemBack. -/
import Derived.Test.YtmabagpagmcnlaaMmK
import Derived.Test.YtmabagpagmcnlaaMmG
import Derived.Test.YtmabagpagmcnlaaMmC
import Derived.Test.YtmabagpagmcnlaaMmQ
import Derived.Test.YtmabagpagmcnlaaProg
import Derived.Laws.Externs
set_option linter.unusedVariables false
set_option linter.unusedSimpArgs false
namespace Go.Proofs.Ytmabagpagmcnlaa
open Go.RowKit Go.ChangeShapes Go.WideShapes

theorem rwU8 : Rw Try.prog 5 [some .u8] := Rw.int .u8 Try.underlying5 (by kernel_rfl)
theorem rwU64 : Rw Try.prog 23 [some .u64] := Rw.int .u64 Try.underlying23 (by kernel_rfl)
theorem rwI64 : Rw Try.prog 3 [some .i64] := Rw.int .i64 Try.underlying3 (by kernel_rfl)
theorem rwAct : Rw Try.prog 37 [some .i64, some .u64, some .i64, some .u64] := Rw.struct (ks := [some .i64, some .u64, some .i64, some .u64]) (RwSeq.cons (ks := [some .i64]) rwI64 (by rfl) (RwSeq.cons (ks := [some .u64]) rwU64 (by rfl) (RwSeq.cons (ks := [some .i64]) rwI64 (by rfl) (RwSeq.cons (ks := [some .u64]) rwU64 (by rfl) (RwSeq.nil _ _))))) Try.underlying37 (by kernel_rfl)
def tys_MmL : List (Nat × TI) := [(2, ⟨false, 1, [.int .i64 (.lit 0)], [], none, some .i64, false, false, none, 8, false, none, false, 0⟩),
 (3, ⟨false, 1, [.int .i64 (.lit 0)], [], none, some .i64, false, false, none, 8, false, none, false, 0⟩),
 (4, ⟨false, 1, [.bool (.tt false)], [], none, none, false, true, none, 1, false, none, false, 0⟩),
 (5, ⟨false, 1, [.int .u8 (.lit 0)], [], none, some .u8, false, false, none, 1, false, none, false, 0⟩),
 (9, ⟨false, 1, [.str .lnil], [], none, none, false, false, none, 16, false, none, false, 2⟩),
 (22, ⟨false, 1, [.nsl], [], none, none, false, false, some 5, 24, false, none, false, 0⟩),
 (23, ⟨false, 1, [.int .u64 (.lit 0)], [], none, some .u64, false, false, none, 8, false, none, false, 0⟩),
 (25, ⟨false, 1, [.nilp], [], none, none, false, false, none, 8, false, none, false, 1⟩),
 (26, ⟨false, 1, [.int .i64 (.lit 0)], [], none, some .i64, false, false, none, 8, false, none, false, 0⟩),
 (34, ⟨false, 1, [.nsl], [], none, none, false, false, some 37, 24, false, none, false, 0⟩),
 (37, ⟨true, 4, [.int .i64 (.lit 0), .int .u64 (.lit 0), .int .i64 (.lit 0), .int .u64 (.lit 0)], [(0, 3), (1, 23), (2, 3), (3, 23)], none, none, false, false, none, 32, false, none, false, 0⟩),
 (38, ⟨false, 1, [.int .i8 (.lit 0)], [], none, some .i8, false, false, none, 1, false, none, false, 0⟩),
 (82, ⟨true, 3, [.int .u64 (.lit 0), .nsl, .bool (.tt false)], [(0, 23), (1, 22), (2, 4)], none, none, false, false, none, 40, false, none, false, 0⟩),
 (83, ⟨true, 12, [.int .u64 (.lit 0), .nsl, .bool (.tt false), .int .u64 (.lit 0), .nsl, .bool (.tt false), .int .u64 (.lit 0), .nsl, .bool (.tt false), .int .u64 (.lit 0), .nsl, .bool (.tt false)], [], some (4, 82), none, false, false, none, 160, false, none, false, 0⟩),
 (85, ⟨true, 12, [.int .u64 (.lit 0), .nsl, .bool (.tt false), .int .u64 (.lit 0), .nsl, .bool (.tt false), .int .u64 (.lit 0), .nsl, .bool (.tt false), .int .u64 (.lit 0), .nsl, .bool (.tt false)], [(0, 83)], none, none, false, false, none, 160, false, none, false, 0⟩)]
set_option maxRecDepth 100000 in
theorem tysck_MmL : (tys_MmL.all fun p => ckTI Try.prog p.1 p.2) = true := by kernel_rfl
theorem tyseq_MmL : (tys_MmL.all fun p => !p.2.eqok) = true := by kernel_rfl
theorem tyskn_MmL : (tys_MmL.all fun p => !p.2.keyok) = true := by kernel_rfl
theorem tysok_MmL : ∀ t i, (t, i) ∈ tys_MmL → TIok Try.prog t i := by
  intro t i h
  refine TIok_of (all_at (f := ckTI Try.prog) tysck_MmL h) (fun he => ?_) (fun he => ?_) (fun he => ?_)
  · have h1 := List.all_eq_true.1 tyseq_MmL (t, i) h
    simp [he] at h1
  · have h1 := List.all_eq_true.1 tyseq_MmL (t, i) h
    simp [he] at h1
  · have h1 := List.all_eq_true.1 tyskn_MmL (t, i) h
    simp [he] at h1
def sM_mback (key : Nat) : Sm := ⟨4, key, [.one (.sl [some .u8] 5), .one (.sl [some .u8] 5), .one (.sl [some .i64, some .u64, some .i64, some .u64] 37)], [.one .bool], false⟩
def sV_mback (x : List (List Int)) (y : List (List Int)) (l : List (List Int)) : List Dt := [.z (b2i true)]
def sF_mback : List Dt → List Dt
  | [.l x0, .l x1, .l x2] => sV_mback x0 x1 x2
  | _ => []
set_option maxRecDepth 100000 in
def sT_mback : Tr :=
(.br (.lt (.lit 400) (.len (.lvar 0)))
(.call 2 [.bool] .nil 3
(.leaf (.consb (.bvar 3) .nil)))
(.br (.lt (.lit 400) (.len (.lvar 1)))
(.br (.lt (.lit 16384) (.len (.lvar 1)))
(.br (.lt (.lit 40000) (.len (.lvar 1)))
(.call 2 [.bool] .nil 3
(.leaf (.consb (.bvar 3) .nil)))
(.br (.lt (.lit 200) (.len (.lvar 2)))
(.call 2 [.bool] .nil 3
(.leaf (.consb (.bvar 3) .nil)))
(.br (.lt (.lit 256) (.len (.lvar 0)))
(.call 2 [.bool] .nil 3
(.leaf (.consb (.bvar 3) .nil)))
(.call 2 [.bool] .nil 3
(.leaf (.consb (.bvar 3) .nil))))))
(.call 2 [.bool] .nil 3
(.leaf (.consb (.bvar 3) .nil))))
(.br (.lt (.lit 40000) (.len (.lvar 1)))
(.call 2 [.bool] .nil 3
(.leaf (.consb (.bvar 3) .nil)))
(.br (.lt (.lit 200) (.len (.lvar 2)))
(.call 2 [.bool] .nil 3
(.leaf (.consb (.bvar 3) .nil)))
(.br (.lt (.lit 256) (.len (.lvar 0)))
(.call 2 [.bool] .nil 3
(.leaf (.consb (.bvar 3) .nil)))
(.br (.lt (.lit 100) (.len (.lvar 2)))
(.call 2 [.bool] .nil 3
(.leaf (.consb (.bvar 3) .nil)))
(.br (.lt (.lit 16384) (.len (.lvar 1)))
(.leaf (.consb (.tt false) .nil))
(.br (.lt (.len (.lvar 1)) (.lit 1073741824))
(.br (.lt (.len (.lvar 0)) (.lit 1073741824))
(.loop 0 3 [.int .i64, .list [some .u8], .list [some .u8], .list [some .u8]] (.cons (.lit 0) (.consl (.lvar 0) (.consl (.lrep (.lit 64) (.cons (.lit 0) .nil)) (.consl (.lrep (.lit 264) (.cons (.lit 0) .nil)) .nil))))
(.br (.lt (.var 3) (.len (.lvar 2)))
(.br (.lt (.var 3) (.lit 0))
.panic
(.cut 1 7 []
(.br (.eq (.get (.lvar 2) (.var 3) 2) (.lit 1))
(.next 1 .nil)
(.br (.eq (.get (.lvar 2) (.var 3) 2) (.lit 2))
(.next 1 .nil)
(.br (.eq (.get (.lvar 2) (.var 3) 2) (.lit 4))
(.next 1 .nil)
(.br (.eq (.get (.lvar 2) (.var 3) 2) (.lit 8))
(.next 1 .nil)
(.next 0 (.cons (.bin .add .i64 (.var 3) (.lit 1)) (.consl (.lvar 4) (.consl (.lvar 5) (.consl (.lvar 6) .nil)))))))))
(.call 3 [.int .i8] (.cons (.get (.lvar 2) (.var 3) 1) (.cons (.len (.lvar 0)) (.cons (.len (.lvar 1)) (.consb (.tt true) .nil)))) 7
(.call 3 [.int .i8] (.cons (.bin .add .u64 (.get (.lvar 2) (.var 3) 1) (.conv .u64 (.bin .sub .i64 (.get (.lvar 2) (.var 3) 2) (.lit 1)))) (.cons (.len (.lvar 0)) (.cons (.len (.lvar 1)) (.consb (.tt true) .nil)))) 8
(.cut 2 9 [.bool]
(.br (.lt (.lit 0) (.var 7))
(.next 2 (.consb (.eq (.var 7) (.var 8)) .nil))
(.next 2 (.consb (.tt false) .nil)))
(.br (.lt (.len (.lvar 4)) (.lit 1073741824))
(.br (.lt (.len (.lvar 5)) (.lit 1073741824))
(.br (.lt (.len (.lvar 6)) (.lit 1073741824))
(.cut 3 10 [.int .i64, .list [some .u8], .list [some .u8], .list [some .u8]]
(.cut 4 10 []
(.br (.eq (.get (.lvar 2) (.var 3) 2) (.lit 1))
(.next 4 .nil)
(.br (.eq (.get (.lvar 2) (.var 3) 2) (.lit 2))
(.next 4 .nil)
(.br (.eq (.get (.lvar 2) (.var 3) 2) (.lit 4))
(.next 4 .nil)
(.br (.eq (.get (.lvar 2) (.var 3) 2) (.lit 8))
(.next 4 .nil)
(.loop 5 10 [.int .i64, .list [some .u8], .list [some .u8], .list [some .u8]] (.cons (.lit 0) (.consl (.lvar 4) (.consl (.lvar 5) (.consl (.lvar 6) .nil))))
(.br (.lt (.var 10) (.lit 0))
(.br (.lt (.bin .mul .i64 (.lit 8) (.var 10)) (.lit 0))
.panic
.panic)
(.next 3 (.cons (.lit 2) (.consl (.lvar 11) (.consl (.lvar 12) (.consl (.lvar 13) .nil)))))))))))
(.cut 5 10 []
(.cut 6 10 [.bool]
(.br (.lt (.get (.lvar 2) (.var 3) 1) (.lit 1048576))
(.next 6 (.consb (.tt true) .nil))
(.br (.lt (.conv .u64 (.len (.lvar 1))) (.bin .sub .u64 (.get (.lvar 2) (.var 3) 1) (.lit 1048576)))
(.next 6 (.consb (.tt true) .nil))
(.next 6 (.consb (.lt (.bin .sub .u64 (.conv .u64 (.len (.lvar 1))) (.bin .sub .u64 (.get (.lvar 2) (.var 3) 1) (.lit 1048576))) (.conv .u64 (.get (.lvar 2) (.var 3) 2))) .nil))))
(.br (.bvar 10)
(.next 5 .nil)
(.br (.lt (.bin .sub .u64 (.get (.lvar 2) (.var 3) 1) (.lit 1048576)) (.lit 0))
.panic
(.br (.lt (.bin .add .i64 (.conv .i64 (.bin .sub .u64 (.get (.lvar 2) (.var 3) 1) (.lit 1048576))) (.get (.lvar 2) (.var 3) 2)) (.bin .sub .u64 (.get (.lvar 2) (.var 3) 1) (.lit 1048576)))
.panic
(.br (.lt (.len (.lvar 1)) (.bin .add .i64 (.conv .i64 (.bin .sub .u64 (.get (.lvar 2) (.var 3) 1) (.lit 1048576))) (.get (.lvar 2) (.var 3) 2)))
.panic
(.next 5 .nil))))))
(.cut 6 10 []
(.cut 7 10 [.bool]
(.br (.lt (.get (.lvar 2) (.var 3) 1) (.lit 2097152))
(.next 7 (.consb (.tt true) .nil))
(.br (.lt (.conv .u64 (.len (.lvar 4))) (.bin .sub .u64 (.get (.lvar 2) (.var 3) 1) (.lit 2097152)))
(.next 7 (.consb (.tt true) .nil))
(.next 7 (.consb (.lt (.bin .sub .u64 (.conv .u64 (.len (.lvar 4))) (.bin .sub .u64 (.get (.lvar 2) (.var 3) 1) (.lit 2097152))) (.conv .u64 (.get (.lvar 2) (.var 3) 2))) .nil))))
(.br (.bvar 10)
(.next 6 .nil)
(.br (.lt (.bin .sub .u64 (.get (.lvar 2) (.var 3) 1) (.lit 2097152)) (.lit 0))
.panic
(.br (.lt (.bin .add .i64 (.conv .i64 (.bin .sub .u64 (.get (.lvar 2) (.var 3) 1) (.lit 2097152))) (.get (.lvar 2) (.var 3) 2)) (.bin .sub .u64 (.get (.lvar 2) (.var 3) 1) (.lit 2097152)))
.panic
(.br (.lt (.len (.lvar 4)) (.bin .add .i64 (.conv .i64 (.bin .sub .u64 (.get (.lvar 2) (.var 3) 1) (.lit 2097152))) (.get (.lvar 2) (.var 3) 2)))
.panic
(.loop 8 11 [.int .i64, .list [some .u8], .list [some .u8], .list [some .u8]] (.cons (.lit 0) (.consl (.lvar 4) (.consl (.lvar 5) (.consl (.lvar 6) .nil))))
(.br (.lt (.var 11) (.len (.ldrop (.ltake (.lvar 4) (.bin .add .i64 (.conv .i64 (.bin .sub .u64 (.get (.lvar 2) (.var 3) 1) (.lit 2097152))) (.get (.lvar 2) (.var 3) 2))) (.bin .sub .u64 (.get (.lvar 2) (.var 3) 1) (.lit 2097152)))))
(.br (.lt (.bin .mul .i64 (.lit 8) (.var 11)) (.lit 0))
.panic
(.br (.lt (.len (.lvar 12)) (.bin .add .i64 (.conv .i64 (.bin .sub .u64 (.get (.lvar 2) (.var 3) 1) (.lit 2097152))) (.get (.lvar 2) (.var 3) 2)))
(.stuck 185)
(.br (.lt (.var 11) (.lit 0))
.panic
(.br (.lt (.var 11) (.len (.ldrop (.ltake (.lvar 12) (.bin .add .i64 (.conv .i64 (.bin .sub .u64 (.get (.lvar 2) (.var 3) 1) (.lit 2097152))) (.get (.lvar 2) (.var 3) 2))) (.bin .sub .u64 (.get (.lvar 2) (.var 3) 1) (.lit 2097152)))))
(.br (.lt (.bin .add .i64 (.bin .sub .u64 (.get (.lvar 2) (.var 3) 1) (.lit 2097152)) (.var 11)) (.lit 0))
(.stuck 58)
(.br (.lt (.bin .add .i64 (.bin .sub .u64 (.get (.lvar 2) (.var 3) 1) (.lit 2097152)) (.var 11)) (.len (.lvar 12)))
(.next 8 (.cons (.bin .add .i64 (.var 11) (.lit 1)) (.consl (.lset (.lvar 12) (.bin .add .i64 (.bin .sub .u64 (.get (.lvar 2) (.var 3) 1) (.lit 2097152)) (.var 11)) 0 (.conv .u8 (.bin .shr .u64 (.get (.lvar 2) (.var 3) 3) (.bin .mul .i64 (.lit 8) (.var 11))))) (.consl (.lvar 13) (.consl (.lvar 14) .nil)))))
(.stuck 58)))
.panic))))
(.next 3 (.cons (.lit 0) (.consl (.lvar 12) (.consl (.lvar 13) (.consl (.lvar 14) .nil))))))))))))
(.cut 7 10 []
(.cut 8 10 [.bool]
(.br (.lt (.get (.lvar 2) (.var 3) 1) (.lit 3145728))
(.next 8 (.consb (.tt true) .nil))
(.br (.lt (.conv .u64 (.len (.lvar 5))) (.bin .sub .u64 (.get (.lvar 2) (.var 3) 1) (.lit 3145728)))
(.next 8 (.consb (.tt true) .nil))
(.next 8 (.consb (.lt (.bin .sub .u64 (.conv .u64 (.len (.lvar 5))) (.bin .sub .u64 (.get (.lvar 2) (.var 3) 1) (.lit 3145728))) (.conv .u64 (.get (.lvar 2) (.var 3) 2))) .nil))))
(.br (.bvar 10)
(.next 7 .nil)
(.br (.lt (.bin .sub .u64 (.get (.lvar 2) (.var 3) 1) (.lit 3145728)) (.lit 0))
.panic
(.br (.lt (.bin .add .i64 (.conv .i64 (.bin .sub .u64 (.get (.lvar 2) (.var 3) 1) (.lit 3145728))) (.get (.lvar 2) (.var 3) 2)) (.bin .sub .u64 (.get (.lvar 2) (.var 3) 1) (.lit 3145728)))
.panic
(.br (.lt (.len (.lvar 5)) (.bin .add .i64 (.conv .i64 (.bin .sub .u64 (.get (.lvar 2) (.var 3) 1) (.lit 3145728))) (.get (.lvar 2) (.var 3) 2)))
.panic
(.loop 9 11 [.int .i64, .list [some .u8], .list [some .u8], .list [some .u8]] (.cons (.lit 0) (.consl (.lvar 4) (.consl (.lvar 5) (.consl (.lvar 6) .nil))))
(.br (.lt (.var 11) (.len (.ldrop (.ltake (.lvar 5) (.bin .add .i64 (.conv .i64 (.bin .sub .u64 (.get (.lvar 2) (.var 3) 1) (.lit 3145728))) (.get (.lvar 2) (.var 3) 2))) (.bin .sub .u64 (.get (.lvar 2) (.var 3) 1) (.lit 3145728)))))
(.br (.lt (.bin .mul .i64 (.lit 8) (.var 11)) (.lit 0))
.panic
(.br (.lt (.len (.lvar 13)) (.bin .add .i64 (.conv .i64 (.bin .sub .u64 (.get (.lvar 2) (.var 3) 1) (.lit 3145728))) (.get (.lvar 2) (.var 3) 2)))
(.stuck 185)
(.br (.lt (.var 11) (.lit 0))
.panic
(.br (.lt (.var 11) (.len (.ldrop (.ltake (.lvar 13) (.bin .add .i64 (.conv .i64 (.bin .sub .u64 (.get (.lvar 2) (.var 3) 1) (.lit 3145728))) (.get (.lvar 2) (.var 3) 2))) (.bin .sub .u64 (.get (.lvar 2) (.var 3) 1) (.lit 3145728)))))
(.br (.lt (.bin .add .i64 (.bin .sub .u64 (.get (.lvar 2) (.var 3) 1) (.lit 3145728)) (.var 11)) (.lit 0))
(.stuck 58)
(.br (.lt (.bin .add .i64 (.bin .sub .u64 (.get (.lvar 2) (.var 3) 1) (.lit 3145728)) (.var 11)) (.len (.lvar 13)))
(.next 9 (.cons (.bin .add .i64 (.var 11) (.lit 1)) (.consl (.lvar 12) (.consl (.lset (.lvar 13) (.bin .add .i64 (.bin .sub .u64 (.get (.lvar 2) (.var 3) 1) (.lit 3145728)) (.var 11)) 0 (.conv .u8 (.bin .shr .u64 (.get (.lvar 2) (.var 3) 3) (.bin .mul .i64 (.lit 8) (.var 11))))) (.consl (.lvar 14) .nil)))))
(.stuck 58)))
.panic))))
(.next 3 (.cons (.lit 0) (.consl (.lvar 12) (.consl (.lvar 13) (.consl (.lvar 14) .nil))))))))))))
(.cut 8 10 []
(.cut 9 10 [.bool]
(.br (.lt (.get (.lvar 2) (.var 3) 1) (.lit 4194304))
(.next 9 (.consb (.tt true) .nil))
(.br (.lt (.conv .u64 (.len (.lvar 6))) (.bin .sub .u64 (.get (.lvar 2) (.var 3) 1) (.lit 4194304)))
(.next 9 (.consb (.tt true) .nil))
(.next 9 (.consb (.lt (.bin .sub .u64 (.conv .u64 (.len (.lvar 6))) (.bin .sub .u64 (.get (.lvar 2) (.var 3) 1) (.lit 4194304))) (.conv .u64 (.get (.lvar 2) (.var 3) 2))) .nil))))
(.br (.bvar 10)
(.next 8 .nil)
(.br (.lt (.bin .sub .u64 (.get (.lvar 2) (.var 3) 1) (.lit 4194304)) (.lit 0))
.panic
(.br (.lt (.bin .add .i64 (.conv .i64 (.bin .sub .u64 (.get (.lvar 2) (.var 3) 1) (.lit 4194304))) (.get (.lvar 2) (.var 3) 2)) (.bin .sub .u64 (.get (.lvar 2) (.var 3) 1) (.lit 4194304)))
.panic
(.br (.lt (.len (.lvar 6)) (.bin .add .i64 (.conv .i64 (.bin .sub .u64 (.get (.lvar 2) (.var 3) 1) (.lit 4194304))) (.get (.lvar 2) (.var 3) 2)))
.panic
(.loop 10 11 [.int .i64, .list [some .u8], .list [some .u8], .list [some .u8]] (.cons (.lit 0) (.consl (.lvar 4) (.consl (.lvar 5) (.consl (.lvar 6) .nil))))
(.br (.lt (.var 11) (.len (.ldrop (.ltake (.lvar 6) (.bin .add .i64 (.conv .i64 (.bin .sub .u64 (.get (.lvar 2) (.var 3) 1) (.lit 4194304))) (.get (.lvar 2) (.var 3) 2))) (.bin .sub .u64 (.get (.lvar 2) (.var 3) 1) (.lit 4194304)))))
(.br (.lt (.bin .mul .i64 (.lit 8) (.var 11)) (.lit 0))
.panic
(.br (.lt (.len (.lvar 14)) (.bin .add .i64 (.conv .i64 (.bin .sub .u64 (.get (.lvar 2) (.var 3) 1) (.lit 4194304))) (.get (.lvar 2) (.var 3) 2)))
(.stuck 185)
(.br (.lt (.var 11) (.lit 0))
.panic
(.br (.lt (.var 11) (.len (.ldrop (.ltake (.lvar 14) (.bin .add .i64 (.conv .i64 (.bin .sub .u64 (.get (.lvar 2) (.var 3) 1) (.lit 4194304))) (.get (.lvar 2) (.var 3) 2))) (.bin .sub .u64 (.get (.lvar 2) (.var 3) 1) (.lit 4194304)))))
(.br (.lt (.bin .add .i64 (.bin .sub .u64 (.get (.lvar 2) (.var 3) 1) (.lit 4194304)) (.var 11)) (.lit 0))
(.stuck 58)
(.br (.lt (.bin .add .i64 (.bin .sub .u64 (.get (.lvar 2) (.var 3) 1) (.lit 4194304)) (.var 11)) (.len (.lvar 14)))
(.next 10 (.cons (.bin .add .i64 (.var 11) (.lit 1)) (.consl (.lvar 12) (.consl (.lvar 13) (.consl (.lset (.lvar 14) (.bin .add .i64 (.bin .sub .u64 (.get (.lvar 2) (.var 3) 1) (.lit 4194304)) (.var 11)) 0 (.conv .u8 (.bin .shr .u64 (.get (.lvar 2) (.var 3) 3) (.bin .mul .i64 (.lit 8) (.var 11))))) .nil)))))
(.stuck 58)))
.panic))))
(.next 3 (.cons (.lit 0) (.consl (.lvar 12) (.consl (.lvar 13) (.consl (.lvar 14) .nil))))))))))))
(.loop 9 10 [.int .i64, .list [some .u8], .list [some .u8], .list [some .u8]] (.cons (.lit 0) (.consl (.lvar 4) (.consl (.lvar 5) (.consl (.lvar 6) .nil))))
(.br (.lt (.var 10) (.lit 0))
(.br (.lt (.bin .mul .i64 (.lit 8) (.var 10)) (.lit 0))
.panic
.panic)
(.next 3 (.cons (.lit 20) (.consl (.lvar 11) (.consl (.lvar 12) (.consl (.lvar 13) .nil))))))))))))
(.br (.bvar 9)
(.br (.beq (.eq (.var 10) (.lit 0)) (.lt (.lit 1) (.var 7)))
(.loop 4 14 [.int .i64] (.cons (.lit (-9)) .nil)
(.br (.lt (.var 14) (.bin .add .i64 (.get (.lvar 2) (.var 3) 2) (.lit 9)))
(.call 0 [.int .u64, .int .i64] (.cons (.lit 1048576) (.consl (.lvar 1) (.consb (.tt false) (.cons (.lit 2097152) (.consl (.lvar 11) (.consb (.tt true) (.cons (.lit 3145728) (.consl (.lvar 12) (.consb (.tt true) (.cons (.lit 4194304) (.consl (.lvar 13) (.consb (.tt true) (.cons (.bin .add .u64 (.get (.lvar 2) (.var 3) 1) (.conv .u64 (.var 14))) (.cons (.lit 1) .nil)))))))))))))) 15
(.call 0 [.int .u64, .int .i64] (.cons (.lit 1048576) (.consl (.lvar 1) (.consb (.tt false) (.cons (.lit 2097152) (.consl (.lvar 4) (.consb (.tt true) (.cons (.lit 3145728) (.consl (.lvar 5) (.consb (.tt true) (.cons (.lit 4194304) (.consl (.lvar 6) (.consb (.tt true) (.cons (.bin .add .u64 (.get (.lvar 2) (.var 3) 1) (.conv .u64 (.var 14))) (.cons (.lit 1) .nil)))))))))))))) 17
(.br (.eq (.var 16) (.var 18))
(.br (.eq (.var 10) (.lit 0))
(.br (.lt (.var 14) (.lit 0))
(.br (.eq (.var 16) (.lit 0))
(.br (.eq (.var 15) (.var 17))
(.next 4 (.cons (.bin .add .i64 (.var 14) (.lit 1)) .nil))
(.leaf (.consb (.tt false) .nil)))
(.next 4 (.cons (.bin .add .i64 (.var 14) (.lit 1)) .nil)))
(.br (.lt (.var 14) (.get (.lvar 2) (.var 3) 2))
(.br (.lt (.bin .mul .i64 (.lit 8) (.var 14)) (.lit 0))
.panic
(.br (.eq (.var 16) (.lit 0))
(.br (.eq (.var 15) (.bin .and .u64 (.bin .shr .u64 (.get (.lvar 2) (.var 3) 3) (.bin .mul .i64 (.lit 8) (.var 14))) (.lit 255)))
(.next 4 (.cons (.bin .add .i64 (.var 14) (.lit 1)) .nil))
(.leaf (.consb (.tt false) .nil)))
(.next 4 (.cons (.bin .add .i64 (.var 14) (.lit 1)) .nil))))
(.br (.eq (.var 16) (.lit 0))
(.br (.eq (.var 15) (.var 17))
(.next 4 (.cons (.bin .add .i64 (.var 14) (.lit 1)) .nil))
(.leaf (.consb (.tt false) .nil)))
(.next 4 (.cons (.bin .add .i64 (.var 14) (.lit 1)) .nil)))))
(.br (.eq (.var 16) (.lit 0))
(.br (.eq (.var 15) (.var 17))
(.next 4 (.cons (.bin .add .i64 (.var 14) (.lit 1)) .nil))
(.leaf (.consb (.tt false) .nil)))
(.next 4 (.cons (.bin .add .i64 (.var 14) (.lit 1)) .nil))))
(.leaf (.consb (.tt false) .nil)))))
(.call 0 [.int .u64, .int .i64] (.cons (.lit 1048576) (.consl (.lvar 1) (.consb (.tt false) (.cons (.lit 2097152) (.consl (.lvar 11) (.consb (.tt true) (.cons (.lit 3145728) (.consl (.lvar 12) (.consb (.tt true) (.cons (.lit 4194304) (.consl (.lvar 13) (.consb (.tt true) (.cons (.get (.lvar 2) (.var 3) 1) (.cons (.get (.lvar 2) (.var 3) 2) .nil)))))))))))))) 15
(.br (.beq (.eq (.var 16) (.lit 0)) (.bvar 9))
(.loop 5 17 [.int .u64, .int .i64] (.cons (.lit 0) (.cons (.bin .sub .i64 (.get (.lvar 2) (.var 3) 2) (.lit 1)) .nil))
(.br (.lt (.var 18) (.lit 0))
(.br (.eq (.var 15) (.var 17))
(.call 1 [.sl [some .u8] 5, .int .i64] (.cons (.lit 1048576) (.consl (.lvar 1) (.consb (.tt false) (.cons (.lit 2097152) (.consl (.lvar 11) (.consb (.tt true) (.cons (.lit 3145728) (.consl (.lvar 12) (.consb (.tt true) (.cons (.lit 4194304) (.consl (.lvar 13) (.consb (.tt true) (.cons (.lit 1048576) .nil))))))))))))) 19
(.br (.beq (.eq (.var 20) (.lit 0)) (.lt (.lit 0) (.len (.lvar 1))))
(.br (.leq (.lvar 19) (.lvar 1))
(.next 0 (.cons (.bin .add .i64 (.var 3) (.lit 1)) (.consl (.lvar 11) (.consl (.lvar 12) (.consl (.lvar 13) .nil)))))
(.leaf (.consb (.tt false) .nil)))
(.leaf (.consb (.tt false) .nil))))
(.leaf (.consb (.tt false) .nil)))
(.call 0 [.int .u64, .int .i64] (.cons (.lit 1048576) (.consl (.lvar 1) (.consb (.tt false) (.cons (.lit 2097152) (.consl (.lvar 11) (.consb (.tt true) (.cons (.lit 3145728) (.consl (.lvar 12) (.consb (.tt true) (.cons (.lit 4194304) (.consl (.lvar 13) (.consb (.tt true) (.cons (.bin .add .u64 (.get (.lvar 2) (.var 3) 1) (.conv .u64 (.var 18))) (.cons (.lit 1) .nil)))))))))))))) 19
(.next 5 (.cons (.bin .or .u64 (.bin .shl .u64 (.var 17) (.lit 8)) (.var 19)) (.cons (.bin .sub .i64 (.var 18) (.lit 1)) .nil))))))
(.leaf (.consb (.tt false) .nil))))))
(.leaf (.consb (.tt false) .nil)))
(.br (.eq (.var 10) (.lit 0))
(.leaf (.consb (.tt false) .nil))
(.loop 4 14 [.int .i64] (.cons (.lit (-9)) .nil)
(.br (.lt (.var 14) (.bin .add .i64 (.get (.lvar 2) (.var 3) 2) (.lit 9)))
(.call 0 [.int .u64, .int .i64] (.cons (.lit 1048576) (.consl (.lvar 1) (.consb (.tt false) (.cons (.lit 2097152) (.consl (.lvar 11) (.consb (.tt true) (.cons (.lit 3145728) (.consl (.lvar 12) (.consb (.tt true) (.cons (.lit 4194304) (.consl (.lvar 13) (.consb (.tt true) (.cons (.bin .add .u64 (.get (.lvar 2) (.var 3) 1) (.conv .u64 (.var 14))) (.cons (.lit 1) .nil)))))))))))))) 15
(.call 0 [.int .u64, .int .i64] (.cons (.lit 1048576) (.consl (.lvar 1) (.consb (.tt false) (.cons (.lit 2097152) (.consl (.lvar 4) (.consb (.tt true) (.cons (.lit 3145728) (.consl (.lvar 5) (.consb (.tt true) (.cons (.lit 4194304) (.consl (.lvar 6) (.consb (.tt true) (.cons (.bin .add .u64 (.get (.lvar 2) (.var 3) 1) (.conv .u64 (.var 14))) (.cons (.lit 1) .nil)))))))))))))) 17
(.br (.eq (.var 16) (.var 18))
(.br (.eq (.var 16) (.lit 0))
(.br (.eq (.var 15) (.var 17))
(.next 4 (.cons (.bin .add .i64 (.var 14) (.lit 1)) .nil))
(.leaf (.consb (.tt false) .nil)))
(.next 4 (.cons (.bin .add .i64 (.var 14) (.lit 1)) .nil)))
(.leaf (.consb (.tt false) .nil)))))
(.call 0 [.int .u64, .int .i64] (.cons (.lit 1048576) (.consl (.lvar 1) (.consb (.tt false) (.cons (.lit 2097152) (.consl (.lvar 11) (.consb (.tt true) (.cons (.lit 3145728) (.consl (.lvar 12) (.consb (.tt true) (.cons (.lit 4194304) (.consl (.lvar 13) (.consb (.tt true) (.cons (.get (.lvar 2) (.var 3) 1) (.cons (.get (.lvar 2) (.var 3) 2) .nil)))))))))))))) 15
(.br (.beq (.eq (.var 16) (.lit 0)) (.bvar 9))
(.loop 5 17 [.int .u64, .int .i64] (.cons (.lit 0) (.cons (.bin .sub .i64 (.get (.lvar 2) (.var 3) 2) (.lit 1)) .nil))
(.br (.lt (.var 18) (.lit 0))
(.call 1 [.sl [some .u8] 5, .int .i64] (.cons (.lit 1048576) (.consl (.lvar 1) (.consb (.tt false) (.cons (.lit 2097152) (.consl (.lvar 11) (.consb (.tt true) (.cons (.lit 3145728) (.consl (.lvar 12) (.consb (.tt true) (.cons (.lit 4194304) (.consl (.lvar 13) (.consb (.tt true) (.cons (.lit 1048576) .nil))))))))))))) 19
(.br (.beq (.eq (.var 20) (.lit 0)) (.lt (.lit 0) (.len (.lvar 1))))
(.br (.leq (.lvar 19) (.lvar 1))
(.next 0 (.cons (.bin .add .i64 (.var 3) (.lit 1)) (.consl (.lvar 11) (.consl (.lvar 12) (.consl (.lvar 13) .nil)))))
(.leaf (.consb (.tt false) .nil)))
(.leaf (.consb (.tt false) .nil))))
(.call 1 [.sl [some .u8] 5, .int .i64] (.cons (.lit 1048576) (.consl (.lvar 1) (.consb (.tt false) (.cons (.lit 2097152) (.consl (.lvar 11) (.consb (.tt true) (.cons (.lit 3145728) (.consl (.lvar 12) (.consb (.tt true) (.cons (.lit 4194304) (.consl (.lvar 13) (.consb (.tt true) (.cons (.lit 1048576) .nil))))))))))))) 19
(.br (.beq (.eq (.var 20) (.lit 0)) (.lt (.lit 0) (.len (.lvar 1))))
(.br (.leq (.lvar 19) (.lvar 1))
(.next 0 (.cons (.bin .add .i64 (.var 3) (.lit 1)) (.consl (.lvar 11) (.consl (.lvar 12) (.consl (.lvar 13) .nil)))))
(.leaf (.consb (.tt false) .nil)))
(.leaf (.consb (.tt false) .nil))))))
(.leaf (.consb (.tt false) .nil)))))))))
.panic)
.panic)
.panic))))))
(.call 2 [.bool] .nil 7
(.leaf (.consb (.bvar 7) .nil)))))
.panic)
.panic))))))))
def sP_mback : Spec := ⟨fun k => match k with | 0 => sF_mread | 1 => sF_mfetch | 2 => sF_mwakes | 3 => sF_mregn | _ => fun _ => [], fun k => match k with | 0 => sQ_mread | 1 => sQ_mfetch | _ => fun _ => True⟩
set_option maxRecDepth 100000 in
theorem sR_mback : treeIs tys_MmL [sM_mread 0, sM_mfetch 1, sM_mwakes 2, sM_mregn 3] [(16, Try.f16, [], []), (13, Try.f13, [], []), (38, Try.f38, [], []), (18, Try.f18, [], []), (19, Try.f19, [(3, [.tmpI 21 .i64, .row 9, .row 10, .row 11, .top 22, .top 23, .top 11, .top 24, .top 25, .top 26, .top 27, .top 28, .top 29, .top 30, .top 31, .top 32])], []), (40, Try.f40, [], [(5, [.top 15, .top 18, .top 16, .top 17, .top 8, .top 9, .top 19, .top 20, .top 21, .top 22, .top 23, .top 24, .top 25, .top 26, .top 27, .top 28, .top 29, .top 30, .top 31, .top 32]), (13, [.top 13, .top 14, .top 35, .top 10, .top 36, .top 37, .top 38, .top 39, .top 40, .top 11, .top 41, .top 42, .top 12, .top 44, .top 45, .top 46, .top 47, .top 43, .top 48, .top 49, .top 50, .top 51, .top 52, .top 53, .top 54, .top 55, .top 56, .top 57, .top 58, .top 59, .top 60, .top 61, .top 8, .top 9])]), (39, Try.f39, [], [(3, [.tmpB 43, .top 15, .top 16, .top 17, .top 18, .top 19, .top 20, .top 21, .top 22, .top 23, .top 24, .top 25, .top 26, .top 27, .top 28, .top 29, .top 30, .top 31, .top 32, .top 33, .top 34, .top 35, .top 36, .top 37, .top 38, .top 39, .top 40, .top 41, .top 42])])] [(7, [.tmpI 9 .i64, .row 9, .row 10, .row 11, .top 62, .top 63, .top 64, .top 65, .top 68, .top 69, .top 70, .top 71, .top 10, .top 72, .top 73, .top 74, .top 75, .top 76, .top 77, .top 78, .top 79, .top 80, .top 81, .top 82, .top 83, .top 84, .top 85, .top 86, .top 87, .top 88, .top 89, .top 90, .top 91, .top 92, .top 93, .top 94, .top 95, .top 96, .top 11, .top 97, .top 98, .top 99, .top 100, .top 101, .top 102, .top 103, .top 104, .top 105, .top 106, .top 107, .top 108, .top 12, .top 109, .top 110, .top 111, .top 112, .top 113, .top 114, .top 115, .top 13, .top 116, .top 117, .top 14, .top 118, .top 119, .top 120, .top 121, .top 122, .top 123, .top 124, .top 125, .top 15, .top 126, .top 127, .top 128, .top 129, .top 130, .top 131, .top 132, .top 133, .top 6, .top 16, .top 134, .top 135, .top 136, .top 137, .top 138, .top 141, .top 142, .top 143, .top 144, .top 145, .top 17, .top 147, .top 148, .top 149, .top 146, .top 150, .top 151, .top 18, .top 19, .top 153, .top 154, .top 155, .top 152, .top 156, .top 157, .top 20, .top 21, .top 158, .top 159, .top 160, .top 161, .top 162, .top 163, .top 164, .top 165, .top 166, .top 167, .top 168, .top 169, .top 170, .top 171, .top 172, .top 173, .top 174, .top 175, .top 176, .top 177, .top 178, .top 179, .top 180, .top 181, .top 182, .top 183, .top 184, .top 185, .top 139, .top 140, .top 187, .top 188, .top 189, .top 190, .top 191, .top 192, .top 186, .top 193, .top 194, .top 22, .top 23, .top 195, .top 196, .top 197, .top 198, .top 24, .top 199, .top 200, .top 201, .top 25, .top 202, .top 203, .top 204, .top 205, .top 206, .top 210, .top 211, .top 212, .top 213, .top 214, .top 215, .top 216, .top 209, .top 217, .top 218, .top 26, .top 27, .top 219, .top 220, .top 221, .top 222, .top 207, .top 208, .top 223, .top 224, .top 225, .top 226, .top 227, .top 228, .top 230, .top 231, .top 229, .top 232, .top 233, .top 28, .top 29, .top 234, .top 235, .top 236, .top 237, .top 238, .top 239, .top 240, .top 241, .top 242, .top 243, .top 244, .top 245, .top 246, .top 66, .top 67]), (19, [.tmpI 16 .i64, .top 134, .top 135, .top 136, .top 137, .top 138, .top 141, .top 142, .top 143, .top 144, .top 145, .top 17, .top 147, .top 148, .top 149, .top 146, .top 150, .top 151, .top 18, .top 19, .top 153, .top 154, .top 155, .top 152, .top 156, .top 157, .top 20, .top 21, .top 158, .top 159, .top 160, .top 6, .top 161, .top 162, .top 163, .top 164, .top 165, .top 166, .top 167, .top 168, .top 169, .top 170, .top 171, .top 172, .top 173, .top 174, .top 175, .top 176, .top 177, .top 178, .top 179, .top 180, .top 181, .top 182, .top 183, .top 184, .top 185, .top 139, .top 140]), (35, [.tmpI 24 .u64, .tmpI 25 .i64, .top 202, .top 203, .top 204, .top 205, .top 206, .top 210, .top 211, .top 212, .top 213, .top 214, .top 215, .top 216, .top 209, .top 217, .top 218, .top 26, .top 27, .top 219, .top 220, .top 221, .top 222, .top 207, .top 208]), (999998, [])] [(11, [.top 89, .top 72, .top 73, .top 74, .top 75, .top 76, .top 77, .top 78, .top 79, .top 80, .top 81, .top 82, .top 83, .top 84, .top 85, .top 86, .top 87, .top 88]), (14, [.tmpB 13, .top 109, .top 110, .top 111, .top 112, .top 113, .top 114, .top 115]), (16, [.tmpI 15 .i64, .row 9, .row 10, .row 11, .top 118, .top 119, .top 120, .top 121, .top 122, .top 123, .top 124, .top 125])] 200 Try.f4 [.one (.sl [some .u8] 5), .one (.sl [some .u8] 5), .one (.sl [some .i64, some .u64, some .i64, some .u64] 37)] [.one .bool] false [.list [some .u8], .list [some .u8], .list [some .i64, some .u64, some .i64, some .u64]] sT_mback := ⟨by kernel_rfl, by kernel_rfl, by kernel_rfl⟩
set_option maxRecDepth 100000 in
set_option maxHeartbeats 8000000 in
theorem sX_mback (x : List (List Int)) (hx : RowsIn [some .u8] x) (y : List (List Int)) (hy : RowsIn [some .u8] y) (l : List (List Int)) (hl : RowsIn [some .i64, some .u64, some .i64, some .u64] l) (ρ : Env) (g : varsD ρ 0 [.list [some .u8], .list [some .u8], .list [some .i64, some .u64, some .i64, some .u64]] = [.l x, .l y, .l l]) : sT_mback.asks sP_mback (fun ρ e => e.D ρ = sF_mback [.l x, .l y, .l l]) ρ fun _ _ => False := by
  have keepg := g
  simp only [varsD, varD, List.cons.injEq, Dt.z.injEq, Dt.l.injEq, b2i_eq_iff, Nat.reduceAdd, and_true] at g
  simp only [sT_mback, sP_mback, sF_mread, sF_mfetch, sF_mwakes, sF_mregn, sV_mread, sV_mfetch, sV_mregn, sF_mback, sV_mback, sQ_mread, sQ_mfetch, Tr.asks, upd_same, okDs, okD, eqs, E.I, E.B, E.L, E.R, E.D, E.vs, dI, dB, dL, varD, varsD, List.getElem?_cons_zero, List.getElem?_cons_succ, List.cons_append, List.nil_append, Nat.zero_add, Nat.add_zero, Nat.reduceAdd, and_true, true_and, b2i_one, -eq_self, Mem.eta, g]
  obtain ⟨k0_l0, k0_l1, k0_l2⟩ := g
  refine ⟨fun c0 => ?_, fun c0 => ?_⟩
  intro e; (try simp only [e, Mem.eta, -eq_self]); clear e
  · rfl
  refine ⟨fun c1 => ?_, fun c1 => ?_⟩
  refine ⟨fun c2 => ?_, fun c2 => ?_⟩
  refine ⟨fun c3 => ?_, fun c3 => ?_⟩
  intro e; (try simp only [e, Mem.eta, -eq_self]); clear e
  · rfl
  refine ⟨fun c4 => ?_, fun c4 => ?_⟩
  intro e; (try simp only [e, Mem.eta, -eq_self]); clear e
  · rfl
  refine ⟨fun c5 => ?_, fun c5 => ?_⟩
  intro e; (try simp only [e, Mem.eta, -eq_self]); clear e
  · rfl
  intro e; (try simp only [e, Mem.eta, -eq_self]); clear e
  · rfl
  intro e; (try simp only [e, Mem.eta, -eq_self]); clear e
  · rfl
  refine ⟨fun c6 => ?_, fun c6 => ?_⟩
  intro e; (try simp only [e, Mem.eta, -eq_self]); clear e
  · rfl
  refine ⟨fun c7 => ?_, fun c7 => ?_⟩
  intro e; (try simp only [e, Mem.eta, -eq_self]); clear e
  · rfl
  refine ⟨fun c8 => ?_, fun c8 => ?_⟩
  intro e; (try simp only [e, Mem.eta, -eq_self]); clear e
  · rfl
  refine ⟨fun c9 => ?_, fun c9 => ?_⟩
  intro e; (try simp only [e, Mem.eta, -eq_self]); clear e
  · rfl
  refine ⟨fun c10 => ?_, fun c10 => ?_⟩
  · exact absurd (of_decide_eq_true c10) (by have := of_decide_eq_false c1; omega)
  refine ⟨fun c11 => ?_, fun c11 => ?_⟩
  refine ⟨fun c12 => ?_, fun c12 => ?_⟩
  have hlx : x.length ≤ 256 := by have := of_decide_eq_false c8; omega
  have hly : y.length ≤ 16384 := by have := of_decide_eq_false c1; omega
  refine ⟨fun ds => ∃ (i : Nat) (c f s : List (List Int)), ds = [.z (i : Int), .l c, .l f, .l s] ∧ i ≤ l.length ∧ LimB x.length y c f s, fun ds => l.length - (dI ds 0).toNat, ⟨0, x, _, _, rfl, Nat.zero_le _, ⟨hlx, hly, rfl, List.length_replicate, List.length_replicate⟩⟩, ?_⟩
  intro ρ1 ha1 ho1 hi1
  obtain ⟨i, c, f, s, hds, hi, hB⟩ := hi1
  simp only [List.cons.injEq, Dt.z.injEq, Dt.l.injEq, b2i_eq_iff, and_true] at hds
  obtain ⟨k1_i3, k1_l4, k1_l5, k1_l6⟩ := hds
  rw [k1_l4, k1_l5, k1_l6] at ho1
  obtain ⟨_, rc, rf, rs⟩ := ho1
  have k1_l0 : ρ1.l 0 = _ := (ha1 0 (by decide)).2.2.symm.trans k0_l0
  have k1_l1 : ρ1.l 1 = _ := (ha1 1 (by decide)).2.2.symm.trans k0_l1
  have k1_l2 : ρ1.l 2 = _ := (ha1 2 (by decide)).2.2.symm.trans k0_l2
  simp only [k1_l0, k1_l1, k1_l2, k1_i3, k1_l4, k1_l5, k1_l6, -eq_self]
  refine ⟨fun c13 => ?_, fun c13 => ?_⟩
  refine ⟨fun c14 => ?_, fun c14 => ?_⟩
  · exact absurd (of_decide_eq_true c14) (by omega)
  have hi2 : i < l.length := Int.ofNat_lt.1 (of_decide_eq_true c13)
  obtain ⟨ha, hn, hv⟩ := act_in hl hi2
  obtain ⟨a, ea⟩ : ∃ a, gt l (i : Int) 1 = a := ⟨_, rfl⟩
  obtain ⟨n, en⟩ : ∃ n, gt l (i : Int) 2 = n := ⟨_, rfl⟩
  obtain ⟨v, ev⟩ : ∃ v, gt l (i : Int) 3 = v := ⟨_, rfl⟩
  rw [ea] at ha
  rw [en] at hn
  rw [ev] at hv
  simp only [ea, en, ev, -eq_self]
  refine ⟨fun ds => ds = [] ∧ sized n = true, ?_, ?_⟩
  refine ⟨fun c15 => ?_, fun c15 => ?_⟩
  · exact ⟨rfl, by simp [sized, eqI c15]⟩
  refine ⟨fun c16 => ?_, fun c16 => ?_⟩
  · exact ⟨rfl, by simp [sized, eqI c16]⟩
  refine ⟨fun c17 => ?_, fun c17 => ?_⟩
  · exact ⟨rfl, by simp [sized, eqI c17]⟩
  refine ⟨fun c18 => ?_, fun c18 => ?_⟩
  · exact ⟨rfl, by simp [sized, eqI c18]⟩
  · rw [addN1 hi2 hl.len]
    exact ⟨⟨i + 1, c, f, s, rfl, hi2, hB⟩, by show l.length - (((i + 1 : Nat) : Int)).toNat < l.length - ((i : Int)).toNat; omega⟩
  intro ρ2 ha2 _ hi2'
  obtain ⟨_, hs⟩ := hi2'
  have hn3 := sized_n hs
  have h1 : 1 ≤ n := by omega
  have h8 : n ≤ 8 := by omega
  have e9 := add9 h1 h8
  have k2_l0 : ρ2.l 0 = _ := (ha2 0 (by decide)).2.2.symm.trans k1_l0
  have k2_l1 : ρ2.l 1 = _ := (ha2 1 (by decide)).2.2.symm.trans k1_l1
  have k2_l2 : ρ2.l 2 = _ := (ha2 2 (by decide)).2.2.symm.trans k1_l2
  have k2_i3 : ρ2.i 3 = _ := (ha2 3 (by decide)).1.symm.trans k1_i3
  have k2_l4 : ρ2.l 4 = _ := (ha2 4 (by decide)).2.2.symm.trans k1_l4
  have k2_l5 : ρ2.l 5 = _ := (ha2 5 (by decide)).2.2.symm.trans k1_l5
  have k2_l6 : ρ2.l 6 = _ := (ha2 6 (by decide)).2.2.symm.trans k1_l6
  simp only [k2_l0, k2_l1, k2_l2, k2_i3, k2_l4, k2_l5, k2_l6, ea, en, ev, -eq_self]
  intro e; have k2_i7 : ρ2.i 7 = rgn a x.length y.length true := e; (try simp only [e, Mem.eta, -eq_self]); clear e
  intro e; (try simp only [e, Mem.eta, -eq_self]); clear e
  refine ⟨fun ds => ds = [.z (b2i (decide ((memB y c f s).reg a n ≠ 0)))], ?_, ?_⟩
  refine ⟨fun c19 => ?_, fun c19 => ?_⟩
  · exact congrArg (fun z => [Dt.z (b2i z)]) (within1 hB ha h1 h8 c19)
  · exact congrArg (fun z => [Dt.z (b2i z)]) (within0 hB ha h1 h8 c19)
  intro ρ3 ha3 _ hi3
  simp only [List.cons.injEq, Dt.z.injEq, Dt.l.injEq, b2i_eq_iff, and_true] at hi3
  have k3_b9 := hi3
  have k3_l0 : ρ3.l 0 = _ := (ha3 0 (by decide)).2.2.symm.trans k2_l0
  have k3_l1 : ρ3.l 1 = _ := (ha3 1 (by decide)).2.2.symm.trans k2_l1
  have k3_l2 : ρ3.l 2 = _ := (ha3 2 (by decide)).2.2.symm.trans k2_l2
  have k3_i3 : ρ3.i 3 = _ := (ha3 3 (by decide)).1.symm.trans k2_i3
  have k3_l4 : ρ3.l 4 = _ := (ha3 4 (by decide)).2.2.symm.trans k2_l4
  have k3_l5 : ρ3.l 5 = _ := (ha3 5 (by decide)).2.2.symm.trans k2_l5
  have k3_l6 : ρ3.l 6 = _ := (ha3 6 (by decide)).2.2.symm.trans k2_l6
  have k3_i7 : ρ3.i 7 = _ := (ha3 7 (by decide)).1.symm.trans k2_i7
  simp only [k3_l0, k3_l1, k3_l2, k3_i3, k3_l4, k3_l5, k3_l6, k3_i7, k3_b9, ea, en, ev, -eq_self]
  refine ⟨fun c20 => ?_, fun c20 => ?_⟩
  refine ⟨fun c21 => ?_, fun c21 => ?_⟩
  refine ⟨fun c22 => ?_, fun c22 => ?_⟩
  refine ⟨fun ds => ∃ (e : Int) (c' f' s' : List (List Int)), ds = [.z e, .l c', .l f', .l s'] ∧ AfterW x.length y c f s c' f' s' a n v e, ?_, ?_⟩
  refine ⟨fun ds => ds = [], ?_, ?_⟩
  refine ⟨fun c23 => ?_, fun c23 => ?_⟩
  · rfl
  refine ⟨fun c24 => ?_, fun c24 => ?_⟩
  · rfl
  refine ⟨fun c25 => ?_, fun c25 => ?_⟩
  · rfl
  refine ⟨fun c26 => ?_, fun c26 => ?_⟩
  · rfl
  refine ⟨fun _ => False, fun _ => 0, absurd hs (by simp [sized, neI c23, neI c24, neI c25, neI c26]), ?_⟩
  intro ρ4 ha4 _ hif
  refine ⟨fun c27 => ?_, fun c27 => ?_⟩
  refine ⟨fun c28 => ?_, fun c28 => ?_⟩
  · exact hif.elim
  · exact hif.elim
  · exact hif.elim
  intro ρ4 ha4 _ _
  have k4_l0 : ρ4.l 0 = _ := (ha4 0 (by decide)).2.2.symm.trans k3_l0
  have k4_l1 : ρ4.l 1 = _ := (ha4 1 (by decide)).2.2.symm.trans k3_l1
  have k4_l2 : ρ4.l 2 = _ := (ha4 2 (by decide)).2.2.symm.trans k3_l2
  have k4_i3 : ρ4.i 3 = _ := (ha4 3 (by decide)).1.symm.trans k3_i3
  have k4_l4 : ρ4.l 4 = _ := (ha4 4 (by decide)).2.2.symm.trans k3_l4
  have k4_l5 : ρ4.l 5 = _ := (ha4 5 (by decide)).2.2.symm.trans k3_l5
  have k4_l6 : ρ4.l 6 = _ := (ha4 6 (by decide)).2.2.symm.trans k3_l6
  have k4_i7 : ρ4.i 7 = _ := (ha4 7 (by decide)).1.symm.trans k3_i7
  simp only [k4_l0, k4_l1, k4_l2, k4_i3, k4_l4, k4_l5, k4_l6, k4_i7, ea, en, ev, -eq_self]
  refine ⟨fun ds => ds = [], ?_, ?_⟩
  refine ⟨fun ds => ds = [.z (b2i (!inr 1048576 y a n))], ?_, ?_⟩
  refine ⟨fun c29 => ?_, fun c29 => ?_⟩
  · exact congrArg (fun z => [Dt.z (b2i z)]) (inr_lo c29)
  refine ⟨fun c30 => ?_, fun c30 => ?_⟩
  · exact congrArg (fun z => [Dt.z (b2i z)]) (inr_len ha (by decide) h1 c29 (Nat.le_trans hB.y (by decide)) c30)
  · rw [wrU (a := n) (by omega) (by omega)]
    exact congrArg (fun z => [Dt.z (b2i z)]) (inr_rest ha (by decide) h1 h8 c29 (Nat.le_trans hB.y (by decide)) c30)
  intro ρ5 ha5 _ hi5
  simp only [List.cons.injEq, Dt.z.injEq, Dt.l.injEq, b2i_eq_iff, and_true] at hi5
  have k5_b10 := hi5
  have k5_l0 : ρ5.l 0 = _ := (ha5 0 (by decide)).2.2.symm.trans k4_l0
  have k5_l1 : ρ5.l 1 = _ := (ha5 1 (by decide)).2.2.symm.trans k4_l1
  have k5_l2 : ρ5.l 2 = _ := (ha5 2 (by decide)).2.2.symm.trans k4_l2
  have k5_i3 : ρ5.i 3 = _ := (ha5 3 (by decide)).1.symm.trans k4_i3
  have k5_l4 : ρ5.l 4 = _ := (ha5 4 (by decide)).2.2.symm.trans k4_l4
  have k5_l5 : ρ5.l 5 = _ := (ha5 5 (by decide)).2.2.symm.trans k4_l5
  have k5_l6 : ρ5.l 6 = _ := (ha5 6 (by decide)).2.2.symm.trans k4_l6
  have k5_i7 : ρ5.i 7 = _ := (ha5 7 (by decide)).1.symm.trans k4_i7
  simp only [k5_l0, k5_l1, k5_l2, k5_i3, k5_l4, k5_l5, k5_l6, k5_i7, k5_b10, ea, en, ev, -eq_self]
  refine ⟨fun c31 => ?_, fun c31 => ?_⟩
  · rfl
  refine ⟨fun c32 => ?_, fun c32 => ?_⟩
  · have fr : inr 1048576 y a n = true := by simpa using c31
    have W := Win.of fr ha (by decide) (Nat.le_trans hB.y (by decide)) h1 h8
    have w1 := W.lo; have w2 := W.hi; have w3 := W.len
    simp only [W.sub, W.cv, W.add] at c32
    exact absurd (of_decide_eq_true c32) (by omega)
  refine ⟨fun c33 => ?_, fun c33 => ?_⟩
  · have fr : inr 1048576 y a n = true := by simpa using c31
    have W := Win.of fr ha (by decide) (Nat.le_trans hB.y (by decide)) h1 h8
    have w1 := W.lo; have w2 := W.hi; have w3 := W.len
    simp only [W.sub, W.cv, W.add] at c33
    exact absurd (of_decide_eq_true c33) (by omega)
  refine ⟨fun c34 => ?_, fun c34 => ?_⟩
  · have fr : inr 1048576 y a n = true := by simpa using c31
    have W := Win.of fr ha (by decide) (Nat.le_trans hB.y (by decide)) h1 h8
    have w1 := W.lo; have w2 := W.hi; have w3 := W.len
    simp only [W.sub, W.cv, W.add] at c34
    exact absurd (of_decide_eq_true c34) (by omega)
  · rfl
  intro ρ5 ha5 _ _
  have k5_l0 : ρ5.l 0 = _ := (ha5 0 (by decide)).2.2.symm.trans k4_l0
  have k5_l1 : ρ5.l 1 = _ := (ha5 1 (by decide)).2.2.symm.trans k4_l1
  have k5_l2 : ρ5.l 2 = _ := (ha5 2 (by decide)).2.2.symm.trans k4_l2
  have k5_i3 : ρ5.i 3 = _ := (ha5 3 (by decide)).1.symm.trans k4_i3
  have k5_l4 : ρ5.l 4 = _ := (ha5 4 (by decide)).2.2.symm.trans k4_l4
  have k5_l5 : ρ5.l 5 = _ := (ha5 5 (by decide)).2.2.symm.trans k4_l5
  have k5_l6 : ρ5.l 6 = _ := (ha5 6 (by decide)).2.2.symm.trans k4_l6
  have k5_i7 : ρ5.i 7 = _ := (ha5 7 (by decide)).1.symm.trans k4_i7
  simp only [k5_l0, k5_l1, k5_l2, k5_i3, k5_l4, k5_l5, k5_l6, k5_i7, ea, en, ev, -eq_self]
  refine ⟨fun ds => ds = [] ∧ inr 2097152 c a n = false, ?_, ?_⟩
  refine ⟨fun ds => ds = [.z (b2i (!inr 2097152 c a n))], ?_, ?_⟩
  refine ⟨fun c35 => ?_, fun c35 => ?_⟩
  · exact congrArg (fun z => [Dt.z (b2i z)]) (inr_lo c35)
  refine ⟨fun c36 => ?_, fun c36 => ?_⟩
  · exact congrArg (fun z => [Dt.z (b2i z)]) (inr_len ha (by decide) h1 c35 (by have := hB.c; have := hB.x; omega) c36)
  · rw [wrU (a := n) (by omega) (by omega)]
    exact congrArg (fun z => [Dt.z (b2i z)]) (inr_rest ha (by decide) h1 h8 c35 (by have := hB.c; have := hB.x; omega) c36)
  intro ρ6 ha6 _ hi6
  simp only [List.cons.injEq, Dt.z.injEq, Dt.l.injEq, b2i_eq_iff, and_true] at hi6
  have k6_b10 := hi6
  have k6_l0 : ρ6.l 0 = _ := (ha6 0 (by decide)).2.2.symm.trans k5_l0
  have k6_l1 : ρ6.l 1 = _ := (ha6 1 (by decide)).2.2.symm.trans k5_l1
  have k6_l2 : ρ6.l 2 = _ := (ha6 2 (by decide)).2.2.symm.trans k5_l2
  have k6_i3 : ρ6.i 3 = _ := (ha6 3 (by decide)).1.symm.trans k5_i3
  have k6_l4 : ρ6.l 4 = _ := (ha6 4 (by decide)).2.2.symm.trans k5_l4
  have k6_l5 : ρ6.l 5 = _ := (ha6 5 (by decide)).2.2.symm.trans k5_l5
  have k6_l6 : ρ6.l 6 = _ := (ha6 6 (by decide)).2.2.symm.trans k5_l6
  have k6_i7 : ρ6.i 7 = _ := (ha6 7 (by decide)).1.symm.trans k5_i7
  simp only [k6_l0, k6_l1, k6_l2, k6_i3, k6_l4, k6_l5, k6_l6, k6_i7, k6_b10, ea, en, ev, -eq_self]
  refine ⟨fun c37 => ?_, fun c37 => ?_⟩
  · exact ⟨rfl, by simpa using c37⟩
  refine ⟨fun c38 => ?_, fun c38 => ?_⟩
  · have fr : inr 2097152 c a n = true := by simpa using c37
    have W := Win.of fr ha (by decide) (by have := hB.c; have := hB.x; omega) h1 h8
    have w1 := W.lo; have w2 := W.hi; have w3 := W.len
    simp only [W.sub, W.cv, W.add] at c38
    exact absurd (of_decide_eq_true c38) (by omega)
  refine ⟨fun c39 => ?_, fun c39 => ?_⟩
  · have fr : inr 2097152 c a n = true := by simpa using c37
    have W := Win.of fr ha (by decide) (by have := hB.c; have := hB.x; omega) h1 h8
    have w1 := W.lo; have w2 := W.hi; have w3 := W.len
    simp only [W.sub, W.cv, W.add] at c39
    exact absurd (of_decide_eq_true c39) (by omega)
  refine ⟨fun c40 => ?_, fun c40 => ?_⟩
  · have fr : inr 2097152 c a n = true := by simpa using c37
    have W := Win.of fr ha (by decide) (by have := hB.c; have := hB.x; omega) h1 h8
    have w1 := W.lo; have w2 := W.hi; have w3 := W.len
    simp only [W.sub, W.cv, W.add] at c40
    exact absurd (of_decide_eq_true c40) (by omega)
  have fr : inr 2097152 c a n = true := by simpa using c37
  have W := Win.of fr ha (by decide) (by have := hB.c; have := hB.x; omega) h1 h8
  refine ⟨fun ds => ∃ k : Nat, ds = [.z (k : Int), .l (putL c (a - 2097152).toNat v k), .l f, .l s] ∧ k ≤ n.toNat, fun ds => n.toNat - (dI ds 0).toNat, ⟨0, rfl, Nat.zero_le _⟩, ?_⟩
  intro ρ7 ha7 _ hi7
  obtain ⟨k, hds, hk⟩ := hi7
  simp only [List.cons.injEq, Dt.z.injEq, Dt.l.injEq, b2i_eq_iff, and_true] at hds
  obtain ⟨k7_i11, k7_l12, k7_l13, k7_l14⟩ := hds
  have k7_l0 : ρ7.l 0 = _ := (ha7 0 (by decide)).2.2.symm.trans k6_l0
  have k7_l1 : ρ7.l 1 = _ := (ha7 1 (by decide)).2.2.symm.trans k6_l1
  have k7_l2 : ρ7.l 2 = _ := (ha7 2 (by decide)).2.2.symm.trans k6_l2
  have k7_i3 : ρ7.i 3 = _ := (ha7 3 (by decide)).1.symm.trans k6_i3
  have k7_l4 : ρ7.l 4 = _ := (ha7 4 (by decide)).2.2.symm.trans k6_l4
  have k7_l5 : ρ7.l 5 = _ := (ha7 5 (by decide)).2.2.symm.trans k6_l5
  have k7_l6 : ρ7.l 6 = _ := (ha7 6 (by decide)).2.2.symm.trans k6_l6
  have k7_i7 : ρ7.i 7 = _ := (ha7 7 (by decide)).1.symm.trans k6_i7
  simp only [k7_l0, k7_l1, k7_l2, k7_i3, k7_l4, k7_l5, k7_l6, k7_i7, k7_i11, k7_l12, k7_l13, k7_l14, ea, en, ev, W.sub, W.cv, W.add, W.win, W.len, -eq_self]
  refine ⟨fun c41 => ?_, fun c41 => ?_⟩
  refine ⟨fun c42 => ?_, fun c42 => ?_⟩
  · have hk2 : k < n.toNat := Int.ofNat_lt.1 (of_decide_eq_true c41)
    have w1 := W.lo; have w2 := W.hi; have w3 := W.len
    rw [mul8 (by omega)] at c42
    exact absurd (of_decide_eq_true c42) (by omega)
  refine ⟨fun c43 => ?_, fun c43 => ?_⟩
  · have hk2 : k < n.toNat := Int.ofNat_lt.1 (of_decide_eq_true c41)
    have w1 := W.lo; have w2 := W.hi; have w3 := W.len
    rw [putL_len] at c43
    exact absurd (of_decide_eq_true c43) (by omega)
  refine ⟨fun c44 => ?_, fun c44 => ?_⟩
  · have hk2 : k < n.toNat := Int.ofNat_lt.1 (of_decide_eq_true c41)
    have w1 := W.lo; have w2 := W.hi; have w3 := W.len
    exact absurd (of_decide_eq_true c44) (by omega)
  refine ⟨fun c45 => ?_, fun c45 => ?_⟩
  refine ⟨fun c46 => ?_, fun c46 => ?_⟩
  · have hk2 : k < n.toNat := Int.ofNat_lt.1 (of_decide_eq_true c41)
    have w1 := W.lo; have w2 := W.hi; have w3 := W.len
    rw [(W.byte (by have := hB.c; have := hB.x; omega) hk2).1] at c46
    exact absurd (of_decide_eq_true c46) (by omega)
  refine ⟨fun c47 => ?_, fun c47 => ?_⟩
  · have hk2 : k < n.toNat := Int.ofNat_lt.1 (of_decide_eq_true c41)
    rw [put_step W (by have := hB.c; have := hB.x; omega) v hk2, addN1 hk2 (Nat.le_trans (by omega : n.toNat ≤ 8) (by decide))]
    exact ⟨⟨k + 1, rfl, hk2⟩, by show n.toNat - (((k + 1 : Nat) : Int)).toNat < n.toNat - ((k : Int)).toNat; omega⟩
  · have hk2 : k < n.toNat := Int.ofNat_lt.1 (of_decide_eq_true c41)
    have w1 := W.lo; have w2 := W.hi; have w3 := W.len
    rw [(W.byte (by have := hB.c; have := hB.x; omega) hk2).1, putL_len] at c47
    exact absurd (of_decide_eq_false c47) (by omega)
  · have hk2 : k < n.toNat := Int.ofNat_lt.1 (of_decide_eq_true c41)
    have w1 := W.lo; have w2 := W.hi; have w3 := W.len
    simp only [List.length_drop, List.length_take, putL_len] at c45
    exact absurd (of_decide_eq_false c45) (by omega)
  · obtain rfl : k = n.toNat := by have := of_decide_eq_false c41; omega
    exact ⟨0, _, _, _, rfl, AfterW.c hB h1 fr⟩
  intro ρ6 ha6 _ hi6
  obtain ⟨_, g1⟩ := hi6
  have k6_l0 : ρ6.l 0 = _ := (ha6 0 (by decide)).2.2.symm.trans k5_l0
  have k6_l1 : ρ6.l 1 = _ := (ha6 1 (by decide)).2.2.symm.trans k5_l1
  have k6_l2 : ρ6.l 2 = _ := (ha6 2 (by decide)).2.2.symm.trans k5_l2
  have k6_i3 : ρ6.i 3 = _ := (ha6 3 (by decide)).1.symm.trans k5_i3
  have k6_l4 : ρ6.l 4 = _ := (ha6 4 (by decide)).2.2.symm.trans k5_l4
  have k6_l5 : ρ6.l 5 = _ := (ha6 5 (by decide)).2.2.symm.trans k5_l5
  have k6_l6 : ρ6.l 6 = _ := (ha6 6 (by decide)).2.2.symm.trans k5_l6
  have k6_i7 : ρ6.i 7 = _ := (ha6 7 (by decide)).1.symm.trans k5_i7
  simp only [k6_l0, k6_l1, k6_l2, k6_i3, k6_l4, k6_l5, k6_l6, k6_i7, ea, en, ev, -eq_self]
  refine ⟨fun ds => ds = [] ∧ inr 3145728 f a n = false, ?_, ?_⟩
  refine ⟨fun ds => ds = [.z (b2i (!inr 3145728 f a n))], ?_, ?_⟩
  refine ⟨fun c48 => ?_, fun c48 => ?_⟩
  · exact congrArg (fun z => [Dt.z (b2i z)]) (inr_lo c48)
  refine ⟨fun c49 => ?_, fun c49 => ?_⟩
  · exact congrArg (fun z => [Dt.z (b2i z)]) (inr_len ha (by decide) h1 c48 (by have := hB.f; omega) c49)
  · rw [wrU (a := n) (by omega) (by omega)]
    exact congrArg (fun z => [Dt.z (b2i z)]) (inr_rest ha (by decide) h1 h8 c48 (by have := hB.f; omega) c49)
  intro ρ7 ha7 _ hi7
  simp only [List.cons.injEq, Dt.z.injEq, Dt.l.injEq, b2i_eq_iff, and_true] at hi7
  have k7_b10 := hi7
  have k7_l0 : ρ7.l 0 = _ := (ha7 0 (by decide)).2.2.symm.trans k6_l0
  have k7_l1 : ρ7.l 1 = _ := (ha7 1 (by decide)).2.2.symm.trans k6_l1
  have k7_l2 : ρ7.l 2 = _ := (ha7 2 (by decide)).2.2.symm.trans k6_l2
  have k7_i3 : ρ7.i 3 = _ := (ha7 3 (by decide)).1.symm.trans k6_i3
  have k7_l4 : ρ7.l 4 = _ := (ha7 4 (by decide)).2.2.symm.trans k6_l4
  have k7_l5 : ρ7.l 5 = _ := (ha7 5 (by decide)).2.2.symm.trans k6_l5
  have k7_l6 : ρ7.l 6 = _ := (ha7 6 (by decide)).2.2.symm.trans k6_l6
  have k7_i7 : ρ7.i 7 = _ := (ha7 7 (by decide)).1.symm.trans k6_i7
  simp only [k7_l0, k7_l1, k7_l2, k7_i3, k7_l4, k7_l5, k7_l6, k7_i7, k7_b10, ea, en, ev, -eq_self]
  refine ⟨fun c50 => ?_, fun c50 => ?_⟩
  · exact ⟨rfl, by simpa using c50⟩
  refine ⟨fun c51 => ?_, fun c51 => ?_⟩
  · have fr : inr 3145728 f a n = true := by simpa using c50
    have W := Win.of fr ha (by decide) (by have := hB.f; omega) h1 h8
    have w1 := W.lo; have w2 := W.hi; have w3 := W.len
    simp only [W.sub, W.cv, W.add] at c51
    exact absurd (of_decide_eq_true c51) (by omega)
  refine ⟨fun c52 => ?_, fun c52 => ?_⟩
  · have fr : inr 3145728 f a n = true := by simpa using c50
    have W := Win.of fr ha (by decide) (by have := hB.f; omega) h1 h8
    have w1 := W.lo; have w2 := W.hi; have w3 := W.len
    simp only [W.sub, W.cv, W.add] at c52
    exact absurd (of_decide_eq_true c52) (by omega)
  refine ⟨fun c53 => ?_, fun c53 => ?_⟩
  · have fr : inr 3145728 f a n = true := by simpa using c50
    have W := Win.of fr ha (by decide) (by have := hB.f; omega) h1 h8
    have w1 := W.lo; have w2 := W.hi; have w3 := W.len
    simp only [W.sub, W.cv, W.add] at c53
    exact absurd (of_decide_eq_true c53) (by omega)
  have fr : inr 3145728 f a n = true := by simpa using c50
  have W := Win.of fr ha (by decide) (by have := hB.f; omega) h1 h8
  refine ⟨fun ds => ∃ k : Nat, ds = [.z (k : Int), .l c, .l (putL f (a - 3145728).toNat v k), .l s] ∧ k ≤ n.toNat, fun ds => n.toNat - (dI ds 0).toNat, ⟨0, rfl, Nat.zero_le _⟩, ?_⟩
  intro ρ8 ha8 _ hi8
  obtain ⟨k, hds, hk⟩ := hi8
  simp only [List.cons.injEq, Dt.z.injEq, Dt.l.injEq, b2i_eq_iff, and_true] at hds
  obtain ⟨k8_i11, k8_l12, k8_l13, k8_l14⟩ := hds
  have k8_l0 : ρ8.l 0 = _ := (ha8 0 (by decide)).2.2.symm.trans k7_l0
  have k8_l1 : ρ8.l 1 = _ := (ha8 1 (by decide)).2.2.symm.trans k7_l1
  have k8_l2 : ρ8.l 2 = _ := (ha8 2 (by decide)).2.2.symm.trans k7_l2
  have k8_i3 : ρ8.i 3 = _ := (ha8 3 (by decide)).1.symm.trans k7_i3
  have k8_l4 : ρ8.l 4 = _ := (ha8 4 (by decide)).2.2.symm.trans k7_l4
  have k8_l5 : ρ8.l 5 = _ := (ha8 5 (by decide)).2.2.symm.trans k7_l5
  have k8_l6 : ρ8.l 6 = _ := (ha8 6 (by decide)).2.2.symm.trans k7_l6
  have k8_i7 : ρ8.i 7 = _ := (ha8 7 (by decide)).1.symm.trans k7_i7
  simp only [k8_l0, k8_l1, k8_l2, k8_i3, k8_l4, k8_l5, k8_l6, k8_i7, k8_i11, k8_l12, k8_l13, k8_l14, ea, en, ev, W.sub, W.cv, W.add, W.win, W.len, -eq_self]
  refine ⟨fun c54 => ?_, fun c54 => ?_⟩
  refine ⟨fun c55 => ?_, fun c55 => ?_⟩
  · have hk2 : k < n.toNat := Int.ofNat_lt.1 (of_decide_eq_true c54)
    have w1 := W.lo; have w2 := W.hi; have w3 := W.len
    rw [mul8 (by omega)] at c55
    exact absurd (of_decide_eq_true c55) (by omega)
  refine ⟨fun c56 => ?_, fun c56 => ?_⟩
  · have hk2 : k < n.toNat := Int.ofNat_lt.1 (of_decide_eq_true c54)
    have w1 := W.lo; have w2 := W.hi; have w3 := W.len
    rw [putL_len] at c56
    exact absurd (of_decide_eq_true c56) (by omega)
  refine ⟨fun c57 => ?_, fun c57 => ?_⟩
  · have hk2 : k < n.toNat := Int.ofNat_lt.1 (of_decide_eq_true c54)
    have w1 := W.lo; have w2 := W.hi; have w3 := W.len
    exact absurd (of_decide_eq_true c57) (by omega)
  refine ⟨fun c58 => ?_, fun c58 => ?_⟩
  refine ⟨fun c59 => ?_, fun c59 => ?_⟩
  · have hk2 : k < n.toNat := Int.ofNat_lt.1 (of_decide_eq_true c54)
    have w1 := W.lo; have w2 := W.hi; have w3 := W.len
    rw [(W.byte (by have := hB.f; omega) hk2).1] at c59
    exact absurd (of_decide_eq_true c59) (by omega)
  refine ⟨fun c60 => ?_, fun c60 => ?_⟩
  · have hk2 : k < n.toNat := Int.ofNat_lt.1 (of_decide_eq_true c54)
    rw [put_step W (by have := hB.f; omega) v hk2, addN1 hk2 (Nat.le_trans (by omega : n.toNat ≤ 8) (by decide))]
    exact ⟨⟨k + 1, rfl, hk2⟩, by show n.toNat - (((k + 1 : Nat) : Int)).toNat < n.toNat - ((k : Int)).toNat; omega⟩
  · have hk2 : k < n.toNat := Int.ofNat_lt.1 (of_decide_eq_true c54)
    have w1 := W.lo; have w2 := W.hi; have w3 := W.len
    rw [(W.byte (by have := hB.f; omega) hk2).1, putL_len] at c60
    exact absurd (of_decide_eq_false c60) (by omega)
  · have hk2 : k < n.toNat := Int.ofNat_lt.1 (of_decide_eq_true c54)
    have w1 := W.lo; have w2 := W.hi; have w3 := W.len
    simp only [List.length_drop, List.length_take, putL_len] at c58
    exact absurd (of_decide_eq_false c58) (by omega)
  · obtain rfl : k = n.toNat := by have := of_decide_eq_false c54; omega
    exact ⟨0, _, _, _, rfl, AfterW.f hB h1 fr⟩
  intro ρ7 ha7 _ hi7
  obtain ⟨_, g2⟩ := hi7
  have k7_l0 : ρ7.l 0 = _ := (ha7 0 (by decide)).2.2.symm.trans k6_l0
  have k7_l1 : ρ7.l 1 = _ := (ha7 1 (by decide)).2.2.symm.trans k6_l1
  have k7_l2 : ρ7.l 2 = _ := (ha7 2 (by decide)).2.2.symm.trans k6_l2
  have k7_i3 : ρ7.i 3 = _ := (ha7 3 (by decide)).1.symm.trans k6_i3
  have k7_l4 : ρ7.l 4 = _ := (ha7 4 (by decide)).2.2.symm.trans k6_l4
  have k7_l5 : ρ7.l 5 = _ := (ha7 5 (by decide)).2.2.symm.trans k6_l5
  have k7_l6 : ρ7.l 6 = _ := (ha7 6 (by decide)).2.2.symm.trans k6_l6
  have k7_i7 : ρ7.i 7 = _ := (ha7 7 (by decide)).1.symm.trans k6_i7
  simp only [k7_l0, k7_l1, k7_l2, k7_i3, k7_l4, k7_l5, k7_l6, k7_i7, ea, en, ev, -eq_self]
  refine ⟨fun ds => ds = [] ∧ inr 4194304 s a n = false, ?_, ?_⟩
  refine ⟨fun ds => ds = [.z (b2i (!inr 4194304 s a n))], ?_, ?_⟩
  refine ⟨fun c61 => ?_, fun c61 => ?_⟩
  · exact congrArg (fun z => [Dt.z (b2i z)]) (inr_lo c61)
  refine ⟨fun c62 => ?_, fun c62 => ?_⟩
  · exact congrArg (fun z => [Dt.z (b2i z)]) (inr_len ha (by decide) h1 c61 (by have := hB.s; omega) c62)
  · rw [wrU (a := n) (by omega) (by omega)]
    exact congrArg (fun z => [Dt.z (b2i z)]) (inr_rest ha (by decide) h1 h8 c61 (by have := hB.s; omega) c62)
  intro ρ8 ha8 _ hi8
  simp only [List.cons.injEq, Dt.z.injEq, Dt.l.injEq, b2i_eq_iff, and_true] at hi8
  have k8_b10 := hi8
  have k8_l0 : ρ8.l 0 = _ := (ha8 0 (by decide)).2.2.symm.trans k7_l0
  have k8_l1 : ρ8.l 1 = _ := (ha8 1 (by decide)).2.2.symm.trans k7_l1
  have k8_l2 : ρ8.l 2 = _ := (ha8 2 (by decide)).2.2.symm.trans k7_l2
  have k8_i3 : ρ8.i 3 = _ := (ha8 3 (by decide)).1.symm.trans k7_i3
  have k8_l4 : ρ8.l 4 = _ := (ha8 4 (by decide)).2.2.symm.trans k7_l4
  have k8_l5 : ρ8.l 5 = _ := (ha8 5 (by decide)).2.2.symm.trans k7_l5
  have k8_l6 : ρ8.l 6 = _ := (ha8 6 (by decide)).2.2.symm.trans k7_l6
  have k8_i7 : ρ8.i 7 = _ := (ha8 7 (by decide)).1.symm.trans k7_i7
  simp only [k8_l0, k8_l1, k8_l2, k8_i3, k8_l4, k8_l5, k8_l6, k8_i7, k8_b10, ea, en, ev, -eq_self]
  refine ⟨fun c63 => ?_, fun c63 => ?_⟩
  · exact ⟨rfl, by simpa using c63⟩
  refine ⟨fun c64 => ?_, fun c64 => ?_⟩
  · have fr : inr 4194304 s a n = true := by simpa using c63
    have W := Win.of fr ha (by decide) (by have := hB.s; omega) h1 h8
    have w1 := W.lo; have w2 := W.hi; have w3 := W.len
    simp only [W.sub, W.cv, W.add] at c64
    exact absurd (of_decide_eq_true c64) (by omega)
  refine ⟨fun c65 => ?_, fun c65 => ?_⟩
  · have fr : inr 4194304 s a n = true := by simpa using c63
    have W := Win.of fr ha (by decide) (by have := hB.s; omega) h1 h8
    have w1 := W.lo; have w2 := W.hi; have w3 := W.len
    simp only [W.sub, W.cv, W.add] at c65
    exact absurd (of_decide_eq_true c65) (by omega)
  refine ⟨fun c66 => ?_, fun c66 => ?_⟩
  · have fr : inr 4194304 s a n = true := by simpa using c63
    have W := Win.of fr ha (by decide) (by have := hB.s; omega) h1 h8
    have w1 := W.lo; have w2 := W.hi; have w3 := W.len
    simp only [W.sub, W.cv, W.add] at c66
    exact absurd (of_decide_eq_true c66) (by omega)
  have fr : inr 4194304 s a n = true := by simpa using c63
  have W := Win.of fr ha (by decide) (by have := hB.s; omega) h1 h8
  refine ⟨fun ds => ∃ k : Nat, ds = [.z (k : Int), .l c, .l f, .l (putL s (a - 4194304).toNat v k)] ∧ k ≤ n.toNat, fun ds => n.toNat - (dI ds 0).toNat, ⟨0, rfl, Nat.zero_le _⟩, ?_⟩
  intro ρ9 ha9 _ hi9
  obtain ⟨k, hds, hk⟩ := hi9
  simp only [List.cons.injEq, Dt.z.injEq, Dt.l.injEq, b2i_eq_iff, and_true] at hds
  obtain ⟨k9_i11, k9_l12, k9_l13, k9_l14⟩ := hds
  have k9_l0 : ρ9.l 0 = _ := (ha9 0 (by decide)).2.2.symm.trans k8_l0
  have k9_l1 : ρ9.l 1 = _ := (ha9 1 (by decide)).2.2.symm.trans k8_l1
  have k9_l2 : ρ9.l 2 = _ := (ha9 2 (by decide)).2.2.symm.trans k8_l2
  have k9_i3 : ρ9.i 3 = _ := (ha9 3 (by decide)).1.symm.trans k8_i3
  have k9_l4 : ρ9.l 4 = _ := (ha9 4 (by decide)).2.2.symm.trans k8_l4
  have k9_l5 : ρ9.l 5 = _ := (ha9 5 (by decide)).2.2.symm.trans k8_l5
  have k9_l6 : ρ9.l 6 = _ := (ha9 6 (by decide)).2.2.symm.trans k8_l6
  have k9_i7 : ρ9.i 7 = _ := (ha9 7 (by decide)).1.symm.trans k8_i7
  simp only [k9_l0, k9_l1, k9_l2, k9_i3, k9_l4, k9_l5, k9_l6, k9_i7, k9_i11, k9_l12, k9_l13, k9_l14, ea, en, ev, W.sub, W.cv, W.add, W.win, W.len, -eq_self]
  refine ⟨fun c67 => ?_, fun c67 => ?_⟩
  refine ⟨fun c68 => ?_, fun c68 => ?_⟩
  · have hk2 : k < n.toNat := Int.ofNat_lt.1 (of_decide_eq_true c67)
    have w1 := W.lo; have w2 := W.hi; have w3 := W.len
    rw [mul8 (by omega)] at c68
    exact absurd (of_decide_eq_true c68) (by omega)
  refine ⟨fun c69 => ?_, fun c69 => ?_⟩
  · have hk2 : k < n.toNat := Int.ofNat_lt.1 (of_decide_eq_true c67)
    have w1 := W.lo; have w2 := W.hi; have w3 := W.len
    rw [putL_len] at c69
    exact absurd (of_decide_eq_true c69) (by omega)
  refine ⟨fun c70 => ?_, fun c70 => ?_⟩
  · have hk2 : k < n.toNat := Int.ofNat_lt.1 (of_decide_eq_true c67)
    have w1 := W.lo; have w2 := W.hi; have w3 := W.len
    exact absurd (of_decide_eq_true c70) (by omega)
  refine ⟨fun c71 => ?_, fun c71 => ?_⟩
  refine ⟨fun c72 => ?_, fun c72 => ?_⟩
  · have hk2 : k < n.toNat := Int.ofNat_lt.1 (of_decide_eq_true c67)
    have w1 := W.lo; have w2 := W.hi; have w3 := W.len
    rw [(W.byte (by have := hB.s; omega) hk2).1] at c72
    exact absurd (of_decide_eq_true c72) (by omega)
  refine ⟨fun c73 => ?_, fun c73 => ?_⟩
  · have hk2 : k < n.toNat := Int.ofNat_lt.1 (of_decide_eq_true c67)
    rw [put_step W (by have := hB.s; omega) v hk2, addN1 hk2 (Nat.le_trans (by omega : n.toNat ≤ 8) (by decide))]
    exact ⟨⟨k + 1, rfl, hk2⟩, by show n.toNat - (((k + 1 : Nat) : Int)).toNat < n.toNat - ((k : Int)).toNat; omega⟩
  · have hk2 : k < n.toNat := Int.ofNat_lt.1 (of_decide_eq_true c67)
    have w1 := W.lo; have w2 := W.hi; have w3 := W.len
    rw [(W.byte (by have := hB.s; omega) hk2).1, putL_len] at c73
    exact absurd (of_decide_eq_false c73) (by omega)
  · have hk2 : k < n.toNat := Int.ofNat_lt.1 (of_decide_eq_true c67)
    have w1 := W.lo; have w2 := W.hi; have w3 := W.len
    simp only [List.length_drop, List.length_take, putL_len] at c71
    exact absurd (of_decide_eq_false c71) (by omega)
  · obtain rfl : k = n.toNat := by have := of_decide_eq_false c67; omega
    exact ⟨0, _, _, _, rfl, AfterW.s hB h1 fr⟩
  intro ρ8 ha8 _ hi8
  obtain ⟨_, g3⟩ := hi8
  have k8_l0 : ρ8.l 0 = _ := (ha8 0 (by decide)).2.2.symm.trans k7_l0
  have k8_l1 : ρ8.l 1 = _ := (ha8 1 (by decide)).2.2.symm.trans k7_l1
  have k8_l2 : ρ8.l 2 = _ := (ha8 2 (by decide)).2.2.symm.trans k7_l2
  have k8_i3 : ρ8.i 3 = _ := (ha8 3 (by decide)).1.symm.trans k7_i3
  have k8_l4 : ρ8.l 4 = _ := (ha8 4 (by decide)).2.2.symm.trans k7_l4
  have k8_l5 : ρ8.l 5 = _ := (ha8 5 (by decide)).2.2.symm.trans k7_l5
  have k8_l6 : ρ8.l 6 = _ := (ha8 6 (by decide)).2.2.symm.trans k7_l6
  have k8_i7 : ρ8.i 7 = _ := (ha8 7 (by decide)).1.symm.trans k7_i7
  simp only [k8_l0, k8_l1, k8_l2, k8_i3, k8_l4, k8_l5, k8_l6, k8_i7, ea, en, ev, -eq_self]
  refine ⟨fun ds => ds = [.z 0, .l c, .l f, .l s], fun _ => 0, rfl, ?_⟩
  intro ρ9 ha9 _ hi9
  simp only [List.cons.injEq, Dt.z.injEq, Dt.l.injEq, b2i_eq_iff, and_true] at hi9
  obtain ⟨k9_i10, k9_l11, k9_l12, k9_l13⟩ := hi9
  have k9_l0 : ρ9.l 0 = _ := (ha9 0 (by decide)).2.2.symm.trans k8_l0
  have k9_l1 : ρ9.l 1 = _ := (ha9 1 (by decide)).2.2.symm.trans k8_l1
  have k9_l2 : ρ9.l 2 = _ := (ha9 2 (by decide)).2.2.symm.trans k8_l2
  have k9_i3 : ρ9.i 3 = _ := (ha9 3 (by decide)).1.symm.trans k8_i3
  have k9_l4 : ρ9.l 4 = _ := (ha9 4 (by decide)).2.2.symm.trans k8_l4
  have k9_l5 : ρ9.l 5 = _ := (ha9 5 (by decide)).2.2.symm.trans k8_l5
  have k9_l6 : ρ9.l 6 = _ := (ha9 6 (by decide)).2.2.symm.trans k8_l6
  have k9_i7 : ρ9.i 7 = _ := (ha9 7 (by decide)).1.symm.trans k8_i7
  simp only [k9_l0, k9_l1, k9_l2, k9_i3, k9_l4, k9_l5, k9_l6, k9_i7, k9_i10, k9_l11, k9_l12, k9_l13, ea, en, ev, -eq_self]
  refine ⟨fun c74 => ?_, fun c74 => ?_⟩
  refine ⟨fun c75 => ?_, fun c75 => ?_⟩
  · exact absurd (of_decide_eq_true c74) (by decide)
  · exact absurd (of_decide_eq_true c74) (by decide)
  · exact ⟨20, c, f, s, rfl, AfterW.none hB g1 g2 g3⟩
  intro ρ4 ha4 ho4 hi4
  obtain ⟨e, c', f', s', hds, hA⟩ := hi4
  simp only [List.cons.injEq, Dt.z.injEq, Dt.l.injEq, b2i_eq_iff, and_true] at hds
  obtain ⟨k4_i10, k4_l11, k4_l12, k4_l13⟩ := hds
  rw [k4_l11, k4_l12, k4_l13] at ho4
  obtain ⟨_, rc', rf', rs'⟩ := ho4
  have k4_l0 : ρ4.l 0 = _ := (ha4 0 (by decide)).2.2.symm.trans k3_l0
  have k4_l1 : ρ4.l 1 = _ := (ha4 1 (by decide)).2.2.symm.trans k3_l1
  have k4_l2 : ρ4.l 2 = _ := (ha4 2 (by decide)).2.2.symm.trans k3_l2
  have k4_i3 : ρ4.i 3 = _ := (ha4 3 (by decide)).1.symm.trans k3_i3
  have k4_l4 : ρ4.l 4 = _ := (ha4 4 (by decide)).2.2.symm.trans k3_l4
  have k4_l5 : ρ4.l 5 = _ := (ha4 5 (by decide)).2.2.symm.trans k3_l5
  have k4_l6 : ρ4.l 6 = _ := (ha4 6 (by decide)).2.2.symm.trans k3_l6
  have k4_i7 : ρ4.i 7 = _ := (ha4 7 (by decide)).1.symm.trans k3_i7
  have k4_b9 : ρ4.b 9 = _ := (ha4 9 (by decide)).2.1.symm.trans k3_b9
  simp only [k4_l0, k4_l1, k4_l2, k4_i3, k4_l4, k4_l5, k4_l6, k4_i7, k4_b9, k4_i10, k4_l11, k4_l12, k4_l13, ea, en, ev, -eq_self]
  refine ⟨fun c76 => ?_, fun c76 => ?_⟩
  refine ⟨fun c77 => ?_, fun c77 => ?_⟩
  refine ⟨fun ds => ∃ k : Int, ds = [.z k] ∧ -9 ≤ k ∧ k ≤ n + 9, fun ds => (n + 9 - dI ds 0).toNat, ⟨-9, rfl, by omega, by omega⟩, ?_⟩
  intro ρ5 ha5 _ hi5
  obtain ⟨k, k5_i14, hk1, hk2⟩ := hi5
  simp only [List.cons.injEq, Dt.z.injEq, and_true] at k5_i14
  have k5_l0 : ρ5.l 0 = _ := (ha5 0 (by decide)).2.2.symm.trans k4_l0
  have k5_l1 : ρ5.l 1 = _ := (ha5 1 (by decide)).2.2.symm.trans k4_l1
  have k5_l2 : ρ5.l 2 = _ := (ha5 2 (by decide)).2.2.symm.trans k4_l2
  have k5_i3 : ρ5.i 3 = _ := (ha5 3 (by decide)).1.symm.trans k4_i3
  have k5_l4 : ρ5.l 4 = _ := (ha5 4 (by decide)).2.2.symm.trans k4_l4
  have k5_l5 : ρ5.l 5 = _ := (ha5 5 (by decide)).2.2.symm.trans k4_l5
  have k5_l6 : ρ5.l 6 = _ := (ha5 6 (by decide)).2.2.symm.trans k4_l6
  have k5_i7 : ρ5.i 7 = _ := (ha5 7 (by decide)).1.symm.trans k4_i7
  have k5_b9 : ρ5.b 9 = _ := (ha5 9 (by decide)).2.1.symm.trans k4_b9
  have k5_i10 : ρ5.i 10 = _ := (ha5 10 (by decide)).1.symm.trans k4_i10
  have k5_l11 : ρ5.l 11 = _ := (ha5 11 (by decide)).2.2.symm.trans k4_l11
  have k5_l12 : ρ5.l 12 = _ := (ha5 12 (by decide)).2.2.symm.trans k4_l12
  have k5_l13 : ρ5.l 13 = _ := (ha5 13 (by decide)).2.2.symm.trans k4_l13
  simp only [k5_l0, k5_l1, k5_l2, k5_i3, k5_l4, k5_l5, k5_l6, k5_i7, k5_b9, k5_i10, k5_l11, k5_l12, k5_l13, k5_i14, ea, en, ev, e9, -eq_self]
  refine ⟨fun c78 => ?_, fun c78 => ?_⟩
  refine ⟨?_, ?_⟩
  · first | exact hA.lim.fit | exact hB.fit
  intro e; (try simp only [e, Mem.eta, -eq_self]); clear e
  refine ⟨?_, ?_⟩
  · first | exact hA.lim.fit | exact hB.fit
  intro e; (try simp only [e, Mem.eta, -eq_self]); clear e
  refine ⟨fun c79 => ?_, fun c79 => ?_⟩
  refine ⟨fun c80 => ?_, fun c80 => ?_⟩
  refine ⟨fun c81 => ?_, fun c81 => ?_⟩
  refine ⟨fun c82 => ?_, fun c82 => ?_⟩
  refine ⟨fun c83 => ?_, fun c83 => ?_⟩
  · have hk3 : k < n + 9 := of_decide_eq_true c78
    rw [addk hk1 (by omega)]
    exact ⟨⟨k + 1, rfl, by omega, by omega⟩, by show (n + 9 - (k + 1)).toNat < (n + 9 - k).toNat; omega⟩
  · have h := hA.read hB (memB_rows hy rc rf rs) hv h1 h8 hk1 (of_decide_eq_true c78) (eqI c82)
    rw [if_neg (fun hh => absurd hh.2.1 (by have := of_decide_eq_true c81; omega))] at h
    exact absurd h (neI c83)
  · have hk3 : k < n + 9 := of_decide_eq_true c78
    rw [addk hk1 (by omega)]
    exact ⟨⟨k + 1, rfl, by omega, by omega⟩, by show (n + 9 - (k + 1)).toNat < (n + 9 - k).toNat; omega⟩
  refine ⟨fun c84 => ?_, fun c84 => ?_⟩
  refine ⟨fun c85 => ?_, fun c85 => ?_⟩
  · obtain ⟨m, rfl⟩ := Int.eq_ofNat_of_zero_le (by have := of_decide_eq_false c81; omega : 0 ≤ k)
    rw [mul8 (by have := of_decide_eq_true c84; omega)] at c85
    exact absurd (of_decide_eq_true c85) (by omega)
  refine ⟨fun c86 => ?_, fun c86 => ?_⟩
  refine ⟨fun c87 => ?_, fun c87 => ?_⟩
  · have hk3 : k < n + 9 := of_decide_eq_true c78
    rw [addk hk1 (by omega)]
    exact ⟨⟨k + 1, rfl, by omega, by omega⟩, by show (n + 9 - (k + 1)).toNat < (n + 9 - k).toNat; omega⟩
  · have h := hA.read hB (memB_rows hy rc rf rs) hv h1 h8 hk1 (of_decide_eq_true c78) (eqI c86)
    rw [if_pos ⟨eqI c80, by have := of_decide_eq_false c81; omega, of_decide_eq_true c84⟩] at h
    exact absurd h (neI c87)
  · have hk3 : k < n + 9 := of_decide_eq_true c78
    rw [addk hk1 (by omega)]
    exact ⟨⟨k + 1, rfl, by omega, by omega⟩, by show (n + 9 - (k + 1)).toNat < (n + 9 - k).toNat; omega⟩
  refine ⟨fun c88 => ?_, fun c88 => ?_⟩
  refine ⟨fun c89 => ?_, fun c89 => ?_⟩
  · have hk3 : k < n + 9 := of_decide_eq_true c78
    rw [addk hk1 (by omega)]
    exact ⟨⟨k + 1, rfl, by omega, by omega⟩, by show (n + 9 - (k + 1)).toNat < (n + 9 - k).toNat; omega⟩
  · have h := hA.read hB (memB_rows hy rc rf rs) hv h1 h8 hk1 (of_decide_eq_true c78) (eqI c88)
    rw [if_neg (fun hh => of_decide_eq_false c84 hh.2.2)] at h
    exact absurd h (neI c89)
  · have hk3 : k < n + 9 := of_decide_eq_true c78
    rw [addk hk1 (by omega)]
    exact ⟨⟨k + 1, rfl, by omega, by omega⟩, by show (n + 9 - (k + 1)).toNat < (n + 9 - k).toNat; omega⟩
  refine ⟨fun c90 => ?_, fun c90 => ?_⟩
  refine ⟨fun c91 => ?_, fun c91 => ?_⟩
  · have hk3 : k < n + 9 := of_decide_eq_true c78
    rw [addk hk1 (by omega)]
    exact ⟨⟨k + 1, rfl, by omega, by omega⟩, by show (n + 9 - (k + 1)).toNat < (n + 9 - k).toNat; omega⟩
  · have h := hA.read hB (memB_rows hy rc rf rs) hv h1 h8 hk1 (of_decide_eq_true c78) (eqI c90)
    rw [if_neg (fun hh => absurd hh.1 (neI c80))] at h
    exact absurd h (neI c91)
  · have hk3 : k < n + 9 := of_decide_eq_true c78
    rw [addk hk1 (by omega)]
    exact ⟨⟨k + 1, rfl, by omega, by omega⟩, by show (n + 9 - (k + 1)).toNat < (n + 9 - k).toNat; omega⟩
  · exact absurd (hA.rd hB _ _) (neI c79)
  refine ⟨?_, ?_⟩
  · first | exact hA.lim.fit | exact hB.fit
  intro e; have k5_i15 := e.1; (try simp only [e, Mem.eta, -eq_self]); clear e
  refine ⟨fun c92 => ?_, fun c92 => ?_⟩
  obtain ⟨b, lw, hrow, hin⟩ := hA.row hB c76
  have rw_ := memB_rows hy rc' rf' rs' b lw hrow
  refine ⟨fun ds => ∃ k : Nat, ds = [.z (numL ((winL b lw a n).drop k)), .z ((k : Int) - 1)] ∧ k ≤ n.toNat, fun ds => (dI ds 1 + 1).toNat, ⟨n.toNat, want_init hin h1 h8, Nat.le_refl _⟩, ?_⟩
  intro ρ6 ha6 _ hi6
  obtain ⟨k', hds, hk'⟩ := hi6
  simp only [List.cons.injEq, Dt.z.injEq, Dt.l.injEq, b2i_eq_iff, and_true] at hds
  obtain ⟨k6_i17, k6_i18⟩ := hds
  have k6_l0 : ρ6.l 0 = _ := (ha6 0 (by decide)).2.2.symm.trans k5_l0
  have k6_l1 : ρ6.l 1 = _ := (ha6 1 (by decide)).2.2.symm.trans k5_l1
  have k6_l2 : ρ6.l 2 = _ := (ha6 2 (by decide)).2.2.symm.trans k5_l2
  have k6_i3 : ρ6.i 3 = _ := (ha6 3 (by decide)).1.symm.trans k5_i3
  have k6_l4 : ρ6.l 4 = _ := (ha6 4 (by decide)).2.2.symm.trans k5_l4
  have k6_l5 : ρ6.l 5 = _ := (ha6 5 (by decide)).2.2.symm.trans k5_l5
  have k6_l6 : ρ6.l 6 = _ := (ha6 6 (by decide)).2.2.symm.trans k5_l6
  have k6_i7 : ρ6.i 7 = _ := (ha6 7 (by decide)).1.symm.trans k5_i7
  have k6_b9 : ρ6.b 9 = _ := (ha6 9 (by decide)).2.1.symm.trans k5_b9
  have k6_i10 : ρ6.i 10 = _ := (ha6 10 (by decide)).1.symm.trans k5_i10
  have k6_l11 : ρ6.l 11 = _ := (ha6 11 (by decide)).2.2.symm.trans k5_l11
  have k6_l12 : ρ6.l 12 = _ := (ha6 12 (by decide)).2.2.symm.trans k5_l12
  have k6_l13 : ρ6.l 13 = _ := (ha6 13 (by decide)).2.2.symm.trans k5_l13
  have k6_i15 : ρ6.i 15 = _ := (ha6 15 (by decide)).1.symm.trans k5_i15
  simp only [k6_l0, k6_l1, k6_l2, k6_i3, k6_l4, k6_l5, k6_l6, k6_i7, k6_b9, k6_i10, k6_l11, k6_l12, k6_l13, k6_i15, k6_i17, k6_i18, ea, en, ev, -eq_self]
  refine ⟨fun c93 => ?_, fun c93 => ?_⟩
  refine ⟨fun c94 => ?_, fun c94 => ?_⟩
  refine ⟨?_, ?_⟩
  · first | exact hA.lim.fit | exact hB.fit
  intro e; (try simp only [e, Mem.eta, -eq_self]); clear e
  refine ⟨fun c95 => ?_, fun c95 => ?_⟩
  refine ⟨fun c96 => ?_, fun c96 => ?_⟩
  · rw [addN1 hi2 hl.len]
    exact ⟨⟨i + 1, c', f', s', rfl, hi2, hA.lim⟩, by show l.length - (((i + 1 : Nat) : Int)).toNat < l.length - ((i : Int)).toNat; omega⟩
  · exact absurd (beq_iff_eq.2 (ft_all (c := c') (f := f') (s := s') hly).2) (fun h => Bool.noConfusion (h.symm.trans c96))
  · exact absurd (beq_iff_eq.2 ((ft_all (c := c') (f := f') (s := s') hly).1)) (fun h => Bool.noConfusion (h.symm.trans c95))
  · obtain rfl : k' = 0 := by have := of_decide_eq_true c93; omega
    exact absurd (rd_row hA.lim.fit.lim hrow hin hs).2 (neI c94)
  refine ⟨?_, ?_⟩
  · first | exact hA.lim.fit | exact hB.fit
  intro e; (try simp only [e, Mem.eta, -eq_self]); clear e
  · obtain ⟨j, rfl⟩ : ∃ j, k' = j + 1 := ⟨k' - 1, by have := of_decide_eq_false c93; omega⟩
    exact want_next hA.lim.fit.lim hrow hin rw_ ha h1 h8 hk'
  · exact absurd (beq_iff_eq.2 (hA.whole hB hs)) (fun h => Bool.noConfusion (h.symm.trans c92))
  · exact absurd (beq_iff_eq.2 (hA.ok hB ha h1 h8 c76)) (fun h => Bool.noConfusion (h.symm.trans c77))
  refine ⟨fun c97 => ?_, fun c97 => ?_⟩
  · exact absurd (eqI c97) (hA.no c76)
  refine ⟨fun ds => ∃ k : Int, ds = [.z k] ∧ -9 ≤ k ∧ k ≤ n + 9, fun ds => (n + 9 - dI ds 0).toNat, ⟨-9, rfl, by omega, by omega⟩, ?_⟩
  intro ρ5 ha5 _ hi5
  obtain ⟨k, k5_i14, hk1, hk2⟩ := hi5
  simp only [List.cons.injEq, Dt.z.injEq, and_true] at k5_i14
  have k5_l0 : ρ5.l 0 = _ := (ha5 0 (by decide)).2.2.symm.trans k4_l0
  have k5_l1 : ρ5.l 1 = _ := (ha5 1 (by decide)).2.2.symm.trans k4_l1
  have k5_l2 : ρ5.l 2 = _ := (ha5 2 (by decide)).2.2.symm.trans k4_l2
  have k5_i3 : ρ5.i 3 = _ := (ha5 3 (by decide)).1.symm.trans k4_i3
  have k5_l4 : ρ5.l 4 = _ := (ha5 4 (by decide)).2.2.symm.trans k4_l4
  have k5_l5 : ρ5.l 5 = _ := (ha5 5 (by decide)).2.2.symm.trans k4_l5
  have k5_l6 : ρ5.l 6 = _ := (ha5 6 (by decide)).2.2.symm.trans k4_l6
  have k5_i7 : ρ5.i 7 = _ := (ha5 7 (by decide)).1.symm.trans k4_i7
  have k5_b9 : ρ5.b 9 = _ := (ha5 9 (by decide)).2.1.symm.trans k4_b9
  have k5_i10 : ρ5.i 10 = _ := (ha5 10 (by decide)).1.symm.trans k4_i10
  have k5_l11 : ρ5.l 11 = _ := (ha5 11 (by decide)).2.2.symm.trans k4_l11
  have k5_l12 : ρ5.l 12 = _ := (ha5 12 (by decide)).2.2.symm.trans k4_l12
  have k5_l13 : ρ5.l 13 = _ := (ha5 13 (by decide)).2.2.symm.trans k4_l13
  simp only [k5_l0, k5_l1, k5_l2, k5_i3, k5_l4, k5_l5, k5_l6, k5_i7, k5_b9, k5_i10, k5_l11, k5_l12, k5_l13, k5_i14, ea, en, ev, e9, -eq_self]
  refine ⟨fun c98 => ?_, fun c98 => ?_⟩
  refine ⟨?_, ?_⟩
  · first | exact hA.lim.fit | exact hB.fit
  intro e; (try simp only [e, Mem.eta, -eq_self]); clear e
  refine ⟨?_, ?_⟩
  · first | exact hA.lim.fit | exact hB.fit
  intro e; (try simp only [e, Mem.eta, -eq_self]); clear e
  refine ⟨fun c99 => ?_, fun c99 => ?_⟩
  refine ⟨fun c100 => ?_, fun c100 => ?_⟩
  refine ⟨fun c101 => ?_, fun c101 => ?_⟩
  · have hk3 : k < n + 9 := of_decide_eq_true c98
    rw [addk hk1 (by omega)]
    exact ⟨⟨k + 1, rfl, by omega, by omega⟩, by show (n + 9 - (k + 1)).toNat < (n + 9 - k).toNat; omega⟩
  · have h := hA.read hB (memB_rows hy rc rf rs) hv h1 h8 hk1 (of_decide_eq_true c98) (eqI c100)
    rw [if_neg (fun hh => absurd hh.1 (neI c97))] at h
    exact absurd h (neI c101)
  · have hk3 : k < n + 9 := of_decide_eq_true c98
    rw [addk hk1 (by omega)]
    exact ⟨⟨k + 1, rfl, by omega, by omega⟩, by show (n + 9 - (k + 1)).toNat < (n + 9 - k).toNat; omega⟩
  · exact absurd (hA.rd hB _ _) (neI c99)
  refine ⟨?_, ?_⟩
  · first | exact hA.lim.fit | exact hB.fit
  intro e; have k5_i15 := e.1; (try simp only [e, Mem.eta, -eq_self]); clear e
  refine ⟨fun c102 => ?_, fun c102 => ?_⟩
  refine ⟨fun _ => True, fun _ => 0, trivial, ?_⟩
  intro ρ6 ha6 _ _
  have k6_l0 : ρ6.l 0 = _ := (ha6 0 (by decide)).2.2.symm.trans k5_l0
  have k6_l1 : ρ6.l 1 = _ := (ha6 1 (by decide)).2.2.symm.trans k5_l1
  have k6_l2 : ρ6.l 2 = _ := (ha6 2 (by decide)).2.2.symm.trans k5_l2
  have k6_i3 : ρ6.i 3 = _ := (ha6 3 (by decide)).1.symm.trans k5_i3
  have k6_l4 : ρ6.l 4 = _ := (ha6 4 (by decide)).2.2.symm.trans k5_l4
  have k6_l5 : ρ6.l 5 = _ := (ha6 5 (by decide)).2.2.symm.trans k5_l5
  have k6_l6 : ρ6.l 6 = _ := (ha6 6 (by decide)).2.2.symm.trans k5_l6
  have k6_i7 : ρ6.i 7 = _ := (ha6 7 (by decide)).1.symm.trans k5_i7
  have k6_b9 : ρ6.b 9 = _ := (ha6 9 (by decide)).2.1.symm.trans k5_b9
  have k6_i10 : ρ6.i 10 = _ := (ha6 10 (by decide)).1.symm.trans k5_i10
  have k6_l11 : ρ6.l 11 = _ := (ha6 11 (by decide)).2.2.symm.trans k5_l11
  have k6_l12 : ρ6.l 12 = _ := (ha6 12 (by decide)).2.2.symm.trans k5_l12
  have k6_l13 : ρ6.l 13 = _ := (ha6 13 (by decide)).2.2.symm.trans k5_l13
  simp only [k6_l0, k6_l1, k6_l2, k6_i3, k6_l4, k6_l5, k6_l6, k6_i7, k6_b9, k6_i10, k6_l11, k6_l12, k6_l13, ea, en, ev, -eq_self]
  refine ⟨fun c103 => ?_, fun c103 => ?_⟩
  refine ⟨?_, ?_⟩
  · first | exact hA.lim.fit | exact hB.fit
  intro e; (try simp only [e, Mem.eta, -eq_self]); clear e
  refine ⟨fun c104 => ?_, fun c104 => ?_⟩
  refine ⟨fun c105 => ?_, fun c105 => ?_⟩
  · rw [addN1 hi2 hl.len]
    exact ⟨⟨i + 1, c', f', s', rfl, hi2, hA.lim⟩, by show l.length - (((i + 1 : Nat) : Int)).toNat < l.length - ((i : Int)).toNat; omega⟩
  · exact absurd (beq_iff_eq.2 (ft_all (c := c') (f := f') (s := s') hly).2) (fun h => Bool.noConfusion (h.symm.trans c105))
  · exact absurd (beq_iff_eq.2 ((ft_all (c := c') (f := f') (s := s') hly).1)) (fun h => Bool.noConfusion (h.symm.trans c104))
  refine ⟨?_, ?_⟩
  · first | exact hA.lim.fit | exact hB.fit
  intro e; (try simp only [e, Mem.eta, -eq_self]); clear e
  refine ⟨fun c106 => ?_, fun c106 => ?_⟩
  refine ⟨fun c107 => ?_, fun c107 => ?_⟩
  · rw [addN1 hi2 hl.len]
    exact ⟨⟨i + 1, c', f', s', rfl, hi2, hA.lim⟩, by show l.length - (((i + 1 : Nat) : Int)).toNat < l.length - ((i : Int)).toNat; omega⟩
  · exact absurd (beq_iff_eq.2 (ft_all (c := c') (f := f') (s := s') hly).2) (fun h => Bool.noConfusion (h.symm.trans c107))
  · exact absurd (beq_iff_eq.2 ((ft_all (c := c') (f := f') (s := s') hly).1)) (fun h => Bool.noConfusion (h.symm.trans c106))
  · exact absurd (beq_iff_eq.2 (hA.whole hB hs)) (fun h => Bool.noConfusion (h.symm.trans c102))
  · exact absurd (of_decide_eq_false c22) (by have := hB.c; have := hB.f; have := hB.s; have := hB.x; omega)
  · exact absurd (of_decide_eq_false c21) (by have := hB.c; have := hB.f; have := hB.s; have := hB.x; omega)
  · exact absurd (of_decide_eq_false c20) (by have := hB.c; have := hB.f; have := hB.s; have := hB.x; omega)
  intro e; (try simp only [e, Mem.eta, -eq_self]); clear e
  · rfl
  · exact absurd (of_decide_eq_false c12) (by have := of_decide_eq_false c0; have := of_decide_eq_false c1; omega)
  · exact absurd (of_decide_eq_false c11) (by have := of_decide_eq_false c0; have := of_decide_eq_false c1; omega)
theorem sC_mback (xs : List Dt) (vals : List Value) (w : World) (hw : shRel w [.one (.sl [some .u8] 5), .one (.sl [some .u8] 5), .one (.sl [some .i64, some .u64, some .i64, some .u64] 37)] xs vals) : Calls Try.prog 4 vals.toArray w fun e w' => ∃ v, e = .returned v ∧ RetOk [.one .bool] false w w' (sF_mback xs) v :=
  (fun_calls (by kernel_rfl) tysok_MmL (smc (sK_mread rfl rfl) (smc (sK_mfetch rfl rfl) (smc (sK_mwakes rfl) (smc (sK_mregn rfl) sm0)))) Try.func4 (fnc Try.func16 (fnc Try.func13 (fnc Try.func38 (fnc Try.func18 (fnc Try.func19 (fnc Try.func40 (fnc Try.func39 fn0))))))) sR_mback (pre := fun _ => True) (fun x0 gx0 x1 gx1 x2 gx2 hp ρ g => sX_mback x0 gx0 x1 gx1 x2 gx2 ρ g) xs vals w hw trivial).2
set_option maxRecDepth 100000 in
set_option maxHeartbeats 8000000 in
theorem law_MemBack {H : Type} {enc : TypeId × Value → H} {W : World} {r : Reach} {b0 : Nat} (v0 : Value) (k0 : Value.okWide Try.prog W r b0 22 v0) (d0 : DataW H) (p0 : List MemPlace) (h0 : DataW.Trod enc Try.prog W 0 (fun _ => true) true 22 v0 d0 p0) (_ : ∀ x ∈ p0, x.block < W.heap.size) (v1 : Value) (k1 : Value.okWide Try.prog W r b0 22 v1) (d1 : DataW H) (p1 : List MemPlace) (h1 : DataW.Trod enc Try.prog W 0 (fun _ => true) true 22 v1 d1 p1) (_ : ∀ x ∈ p1, x.block < W.heap.size) (v2 : Value) (k2 : Value.okWide Try.prog W r b0 34 v2) (d2 : DataW H) (p2 : List MemPlace) (h2 : DataW.Trod enc Try.prog W 0 (fun _ => true) true 34 v2 d2 p2) (_ : ∀ x ∈ p2, x.block < W.heap.size) :
    Calls Try.prog 4 #[v0, v1, v2] W fun e W' => e = .returned (.bool true) ∧ Below W.heap.size W W' := by
  obtain ⟨q0, s0, rfl, n0, m0, o0, l0⟩ := sl_of_arg rwU8 (by decide) Try.underlying22 k0 h0
  obtain ⟨q1, s1, rfl, n1, m1, o1, l1⟩ := sl_of_arg rwU8 (by decide) Try.underlying22 k1 h1
  obtain ⟨q2, s2, rfl, n2, m2, o2, l2⟩ := sl_of_arg rwAct (by decide) Try.underlying34 k2 h2
  refine (sC_mback (.l q0 :: ( .l q1 :: ( .l q2 :: ([])))) _ W ⟨_, _, _, rfl, ⟨_, _, rfl, rfl, n0, m0, o0, l0⟩, ⟨_, _, _, rfl, ⟨_, _, rfl, rfl, n1, m1, o1, l1⟩, ⟨_, _, _, rfl, ⟨_, _, rfl, rfl, n2, m2, o2, l2⟩, ⟨rfl, rfl⟩⟩⟩⟩).mono fun e W' ⟨v, he, hr⟩ => ?_
  have hv : v = .bool true := RetOk.says hr
  rw [he, hv]
  exact ⟨rfl, hr.ext⟩
end Go.Proofs.Ytmabagpagmcnlaa
