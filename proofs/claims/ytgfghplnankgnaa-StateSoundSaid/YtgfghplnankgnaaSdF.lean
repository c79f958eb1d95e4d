/- Contracts of Store of package state, by the symbolic run. -/
import Derived.Test.YtgfghplnankgnaaSdE
import Derived.Test.YtgfghplnankgnaaProg
import Derived.Laws.Externs
set_option linter.unusedVariables false
set_option linter.unusedSimpArgs false
namespace Go.Proofs.Ytgfghplnankgnaa
open Go.RowKit Go.ChangeShapes Go.WideShapes

def tys_SdF : List (Nat × TI) := [(2, ⟨false, 1, [.int .i64 (.lit 0)], [], none, some .i64, false, false, none, 8, false, none, false⟩),
 (3, ⟨false, 1, [.int .i64 (.lit 0)], [], none, some .i64, false, false, none, 8, false, none, false⟩),
 (22, ⟨false, 1, [.int .i8 (.lit 0)], [], none, some .i8, false, false, none, 1, false, none, false⟩),
 (23, ⟨false, 1, [.int .u64 (.lit 0)], [], none, some .u64, false, false, none, 8, false, none, false⟩),
 (25, ⟨true, 4, [.int .u64 (.lit 0), .int .u64 (.lit 0), .int .i64 (.lit 0), .int .i64 (.lit 0)], [(0, 23), (1, 23), (2, 2), (3, 2)], none, none, false, false, none, 32, false, none, false⟩),
 (27, ⟨true, 2, [.int .u64 (.lit 0), .int .u64 (.lit 0)], [(0, 23), (1, 23)], none, none, false, false, none, 16, false, none, false⟩),
 (29, ⟨true, 6, [.int .u64 (.lit 0), .int .u64 (.lit 0), .int .i64 (.lit 0), .int .i64 (.lit 0), .int .u64 (.lit 0), .int .u64 (.lit 0)], [(0, 25), (4, 27)], none, none, false, false, none, 48, false, none, false⟩),
 (31, ⟨true, 9, [.int .i8 (.lit 0), .int .u64 (.lit 0), .int .u64 (.lit 0), .int .i64 (.lit 0), .int .i64 (.lit 0), .int .u64 (.lit 0), .int .u64 (.lit 0), .int .i64 (.lit 0), .int .i64 (.lit 0)], [(0, 22), (1, 29), (7, 3), (8, 3)], none, none, false, false, none, 72, false, none, false⟩),
 (32, ⟨true, 99, [.int .i8 (.lit 0), .int .u64 (.lit 0), .int .u64 (.lit 0), .int .i64 (.lit 0), .int .i64 (.lit 0), .int .u64 (.lit 0), .int .u64 (.lit 0), .int .i64 (.lit 0), .int .i64 (.lit 0), .int .i8 (.lit 0), .int .u64 (.lit 0), .int .u64 (.lit 0), .int .i64 (.lit 0), .int .i64 (.lit 0), .int .u64 (.lit 0), .int .u64 (.lit 0), .int .i64 (.lit 0), .int .i64 (.lit 0), .int .i8 (.lit 0), .int .u64 (.lit 0), .int .u64 (.lit 0), .int .i64 (.lit 0), .int .i64 (.lit 0), .int .u64 (.lit 0), .int .u64 (.lit 0), .int .i64 (.lit 0), .int .i64 (.lit 0), .int .i8 (.lit 0), .int .u64 (.lit 0), .int .u64 (.lit 0), .int .i64 (.lit 0), .int .i64 (.lit 0), .int .u64 (.lit 0), .int .u64 (.lit 0), .int .i64 (.lit 0), .int .i64 (.lit 0), .int .i8 (.lit 0), .int .u64 (.lit 0), .int .u64 (.lit 0), .int .i64 (.lit 0), .int .i64 (.lit 0), .int .u64 (.lit 0), .int .u64 (.lit 0), .int .i64 (.lit 0), .int .i64 (.lit 0), .int .i8 (.lit 0), .int .u64 (.lit 0), .int .u64 (.lit 0), .int .i64 (.lit 0), .int .i64 (.lit 0), .int .u64 (.lit 0), .int .u64 (.lit 0), .int .i64 (.lit 0), .int .i64 (.lit 0), .int .i8 (.lit 0), .int .u64 (.lit 0), .int .u64 (.lit 0), .int .i64 (.lit 0), .int .i64 (.lit 0), .int .u64 (.lit 0), .int .u64 (.lit 0), .int .i64 (.lit 0), .int .i64 (.lit 0), .int .i8 (.lit 0), .int .u64 (.lit 0), .int .u64 (.lit 0), .int .i64 (.lit 0), .int .i64 (.lit 0), .int .u64 (.lit 0), .int .u64 (.lit 0), .int .i64 (.lit 0), .int .i64 (.lit 0), .int .i8 (.lit 0), .int .u64 (.lit 0), .int .u64 (.lit 0), .int .i64 (.lit 0), .int .i64 (.lit 0), .int .u64 (.lit 0), .int .u64 (.lit 0), .int .i64 (.lit 0), .int .i64 (.lit 0), .int .i8 (.lit 0), .int .u64 (.lit 0), .int .u64 (.lit 0), .int .i64 (.lit 0), .int .i64 (.lit 0), .int .u64 (.lit 0), .int .u64 (.lit 0), .int .i64 (.lit 0), .int .i64 (.lit 0), .int .i8 (.lit 0), .int .u64 (.lit 0), .int .u64 (.lit 0), .int .i64 (.lit 0), .int .i64 (.lit 0), .int .u64 (.lit 0), .int .u64 (.lit 0), .int .i64 (.lit 0), .int .i64 (.lit 0)], [], some (11, 31), none, false, false, none, 792, false, none, false⟩),
 (33, ⟨true, 72, [.int .i8 (.lit 0), .int .u64 (.lit 0), .int .u64 (.lit 0), .int .i64 (.lit 0), .int .i64 (.lit 0), .int .u64 (.lit 0), .int .u64 (.lit 0), .int .i64 (.lit 0), .int .i64 (.lit 0), .int .i8 (.lit 0), .int .u64 (.lit 0), .int .u64 (.lit 0), .int .i64 (.lit 0), .int .i64 (.lit 0), .int .u64 (.lit 0), .int .u64 (.lit 0), .int .i64 (.lit 0), .int .i64 (.lit 0), .int .i8 (.lit 0), .int .u64 (.lit 0), .int .u64 (.lit 0), .int .i64 (.lit 0), .int .i64 (.lit 0), .int .u64 (.lit 0), .int .u64 (.lit 0), .int .i64 (.lit 0), .int .i64 (.lit 0), .int .i8 (.lit 0), .int .u64 (.lit 0), .int .u64 (.lit 0), .int .i64 (.lit 0), .int .i64 (.lit 0), .int .u64 (.lit 0), .int .u64 (.lit 0), .int .i64 (.lit 0), .int .i64 (.lit 0), .int .i8 (.lit 0), .int .u64 (.lit 0), .int .u64 (.lit 0), .int .i64 (.lit 0), .int .i64 (.lit 0), .int .u64 (.lit 0), .int .u64 (.lit 0), .int .i64 (.lit 0), .int .i64 (.lit 0), .int .i8 (.lit 0), .int .u64 (.lit 0), .int .u64 (.lit 0), .int .i64 (.lit 0), .int .i64 (.lit 0), .int .u64 (.lit 0), .int .u64 (.lit 0), .int .i64 (.lit 0), .int .i64 (.lit 0), .int .i8 (.lit 0), .int .u64 (.lit 0), .int .u64 (.lit 0), .int .i64 (.lit 0), .int .i64 (.lit 0), .int .u64 (.lit 0), .int .u64 (.lit 0), .int .i64 (.lit 0), .int .i64 (.lit 0), .int .i8 (.lit 0), .int .u64 (.lit 0), .int .u64 (.lit 0), .int .i64 (.lit 0), .int .i64 (.lit 0), .int .u64 (.lit 0), .int .u64 (.lit 0), .int .i64 (.lit 0), .int .i64 (.lit 0)], [], some (8, 31), none, false, false, none, 576, false, none, false⟩),
 (35, ⟨true, 171, [.int .i8 (.lit 0), .int .u64 (.lit 0), .int .u64 (.lit 0), .int .i64 (.lit 0), .int .i64 (.lit 0), .int .u64 (.lit 0), .int .u64 (.lit 0), .int .i64 (.lit 0), .int .i64 (.lit 0), .int .i8 (.lit 0), .int .u64 (.lit 0), .int .u64 (.lit 0), .int .i64 (.lit 0), .int .i64 (.lit 0), .int .u64 (.lit 0), .int .u64 (.lit 0), .int .i64 (.lit 0), .int .i64 (.lit 0), .int .i8 (.lit 0), .int .u64 (.lit 0), .int .u64 (.lit 0), .int .i64 (.lit 0), .int .i64 (.lit 0), .int .u64 (.lit 0), .int .u64 (.lit 0), .int .i64 (.lit 0), .int .i64 (.lit 0), .int .i8 (.lit 0), .int .u64 (.lit 0), .int .u64 (.lit 0), .int .i64 (.lit 0), .int .i64 (.lit 0), .int .u64 (.lit 0), .int .u64 (.lit 0), .int .i64 (.lit 0), .int .i64 (.lit 0), .int .i8 (.lit 0), .int .u64 (.lit 0), .int .u64 (.lit 0), .int .i64 (.lit 0), .int .i64 (.lit 0), .int .u64 (.lit 0), .int .u64 (.lit 0), .int .i64 (.lit 0), .int .i64 (.lit 0), .int .i8 (.lit 0), .int .u64 (.lit 0), .int .u64 (.lit 0), .int .i64 (.lit 0), .int .i64 (.lit 0), .int .u64 (.lit 0), .int .u64 (.lit 0), .int .i64 (.lit 0), .int .i64 (.lit 0), .int .i8 (.lit 0), .int .u64 (.lit 0), .int .u64 (.lit 0), .int .i64 (.lit 0), .int .i64 (.lit 0), .int .u64 (.lit 0), .int .u64 (.lit 0), .int .i64 (.lit 0), .int .i64 (.lit 0), .int .i8 (.lit 0), .int .u64 (.lit 0), .int .u64 (.lit 0), .int .i64 (.lit 0), .int .i64 (.lit 0), .int .u64 (.lit 0), .int .u64 (.lit 0), .int .i64 (.lit 0), .int .i64 (.lit 0), .int .i8 (.lit 0), .int .u64 (.lit 0), .int .u64 (.lit 0), .int .i64 (.lit 0), .int .i64 (.lit 0), .int .u64 (.lit 0), .int .u64 (.lit 0), .int .i64 (.lit 0), .int .i64 (.lit 0), .int .i8 (.lit 0), .int .u64 (.lit 0), .int .u64 (.lit 0), .int .i64 (.lit 0), .int .i64 (.lit 0), .int .u64 (.lit 0), .int .u64 (.lit 0), .int .i64 (.lit 0), .int .i64 (.lit 0), .int .i8 (.lit 0), .int .u64 (.lit 0), .int .u64 (.lit 0), .int .i64 (.lit 0), .int .i64 (.lit 0), .int .u64 (.lit 0), .int .u64 (.lit 0), .int .i64 (.lit 0), .int .i64 (.lit 0), .int .i8 (.lit 0), .int .u64 (.lit 0), .int .u64 (.lit 0), .int .i64 (.lit 0), .int .i64 (.lit 0), .int .u64 (.lit 0), .int .u64 (.lit 0), .int .i64 (.lit 0), .int .i64 (.lit 0), .int .i8 (.lit 0), .int .u64 (.lit 0), .int .u64 (.lit 0), .int .i64 (.lit 0), .int .i64 (.lit 0), .int .u64 (.lit 0), .int .u64 (.lit 0), .int .i64 (.lit 0), .int .i64 (.lit 0), .int .i8 (.lit 0), .int .u64 (.lit 0), .int .u64 (.lit 0), .int .i64 (.lit 0), .int .i64 (.lit 0), .int .u64 (.lit 0), .int .u64 (.lit 0), .int .i64 (.lit 0), .int .i64 (.lit 0), .int .i8 (.lit 0), .int .u64 (.lit 0), .int .u64 (.lit 0), .int .i64 (.lit 0), .int .i64 (.lit 0), .int .u64 (.lit 0), .int .u64 (.lit 0), .int .i64 (.lit 0), .int .i64 (.lit 0), .int .i8 (.lit 0), .int .u64 (.lit 0), .int .u64 (.lit 0), .int .i64 (.lit 0), .int .i64 (.lit 0), .int .u64 (.lit 0), .int .u64 (.lit 0), .int .i64 (.lit 0), .int .i64 (.lit 0), .int .i8 (.lit 0), .int .u64 (.lit 0), .int .u64 (.lit 0), .int .i64 (.lit 0), .int .i64 (.lit 0), .int .u64 (.lit 0), .int .u64 (.lit 0), .int .i64 (.lit 0), .int .i64 (.lit 0), .int .i8 (.lit 0), .int .u64 (.lit 0), .int .u64 (.lit 0), .int .i64 (.lit 0), .int .i64 (.lit 0), .int .u64 (.lit 0), .int .u64 (.lit 0), .int .i64 (.lit 0), .int .i64 (.lit 0), .int .i8 (.lit 0), .int .u64 (.lit 0), .int .u64 (.lit 0), .int .i64 (.lit 0), .int .i64 (.lit 0), .int .u64 (.lit 0), .int .u64 (.lit 0), .int .i64 (.lit 0), .int .i64 (.lit 0)], [(0, 32), (99, 33)], none, none, false, false, none, 1368, false, none, false⟩)]
set_option maxRecDepth 100000 in
theorem tysck_SdF : (tys_SdF.all fun p => ckTI Try.prog p.1 p.2) = true := by kernel_rfl
theorem tyseq_SdF : (tys_SdF.all fun p => !p.2.eqok) = true := by kernel_rfl
theorem tyskn_SdF : (tys_SdF.all fun p => !p.2.keyok) = true := by kernel_rfl
theorem tysok_SdF : ∀ t i, (t, i) ∈ tys_SdF → TIok Try.prog t i := by
  intro t i h
  refine TIok_of (all_at (f := ckTI Try.prog) tysck_SdF h) (fun he => ?_) (fun he => ?_) (fun he => ?_)
  · have h1 := List.all_eq_true.1 tyseq_SdF (t, i) h
    simp [he] at h1
  · have h1 := List.all_eq_true.1 tyseq_SdF (t, i) h
    simp [he] at h1
  · have h1 := List.all_eq_true.1 tyskn_SdF (t, i) h
    simp [he] at h1
def sM_tstore (key : Nat) : Sm := ⟨11, key, [.agg kSta, .one (.int .i64), .one (.int .i64), .one (.int .i64), .agg kTy], [.agg kSta, .one (.int .i64)], true⟩
def sV_tstore (s : Sta) (lo : Int) (hi : Int) (size : Int) (t : Ty) : List Dt := d_Sta (sstore s lo hi size t) ( .z (sserr s lo hi size t) :: ([]))
def sF_tstore : List Dt → List Dt := rd_Sta fun s => rdZ fun lo => rdZ fun hi => rdZ fun size => rd_Ty fun t => fun _ => sV_tstore s lo hi size t
set_option maxRecDepth 100000 in
def sT_tstore : Tr :=
(.call 0 ([.bool]) (.vs 0 174 .nil) 183
(.br (.bvar 183)
(.br (.eq (.var 174) (.lit 0))
(.leaf (.cons (.lit 0) (.cons (.lit 0) (.cons (.lit 0) (.cons (.lit 0) (.cons (.lit 0) (.cons (.lit 0) (.cons (.lit 0) (.cons (.lit 0) (.cons (.lit 0) (.cons (.lit 0) (.cons (.lit 0) (.cons (.lit 0) (.cons (.lit 0) (.cons (.lit 0) (.cons (.lit 0) (.cons (.lit 0) (.cons (.lit 0) (.cons (.lit 0) (.cons (.lit 0) (.cons (.lit 0) (.cons (.lit 0) (.cons (.lit 0) (.cons (.lit 0) (.cons (.lit 0) (.cons (.lit 0) (.cons (.lit 0) (.cons (.lit 0) (.cons (.lit 0) (.cons (.lit 0) (.cons (.lit 0) (.cons (.lit 0) (.cons (.lit 0) (.cons (.lit 0) (.cons (.lit 0) (.cons (.lit 0) (.cons (.lit 0) (.cons (.lit 0) (.cons (.lit 0) (.cons (.lit 0) (.cons (.lit 0) (.cons (.lit 0) (.cons (.lit 0) (.cons (.lit 0) (.cons (.lit 0) (.cons (.lit 0) (.cons (.lit 0) (.cons (.lit 0) (.cons (.lit 0) (.cons (.lit 0) (.cons (.lit 0) (.cons (.lit 0) (.cons (.lit 0) (.cons (.lit 0) (.cons (.lit 0) (.cons (.lit 0) (.cons (.lit 0) (.cons (.lit 0) (.cons (.lit 0) (.cons (.lit 0) (.cons (.lit 0) (.cons (.lit 0) (.cons (.lit 0) (.cons (.lit 0) (.cons (.lit 0) (.cons (.lit 0) (.cons (.lit 0) (.cons (.lit 0) (.cons (.lit 0) (.cons (.lit 0) (.cons (.lit 0) (.cons (.lit 0) (.cons (.lit 0) (.cons (.lit 0) (.cons (.lit 0) (.cons (.lit 0) (.cons (.lit 0) (.cons (.lit 0) (.cons (.lit 0) (.cons (.lit 0) (.cons (.lit 0) (.cons (.lit 0) (.cons (.lit 0) (.cons (.lit 0) (.cons (.lit 0) (.cons (.lit 0) (.cons (.lit 0) (.cons (.lit 0) (.cons (.lit 0) (.cons (.lit 0) (.cons (.lit 0) (.cons (.lit 0) (.cons (.lit 0) (.cons (.lit 0) (.cons (.lit 0) (.cons (.lit 0) (.cons (.lit 0) (.cons (.lit 0) (.cons (.lit 0) (.cons (.lit 0) (.cons (.lit 0) (.cons (.lit 0) (.cons (.lit 0) (.cons (.lit 0) (.cons (.lit 0) (.cons (.lit 0) (.cons (.lit 0) (.cons (.lit 0) (.cons (.lit 0) (.cons (.lit 0) (.cons (.lit 0) (.cons (.lit 0) (.cons (.lit 0) (.cons (.lit 0) (.cons (.lit 0) (.cons (.lit 0) (.cons (.lit 0) (.cons (.lit 0) (.cons (.lit 0) (.cons (.lit 0) (.cons (.lit 0) (.cons (.lit 0) (.cons (.lit 0) (.cons (.lit 0) (.cons (.lit 0) (.cons (.lit 0) (.cons (.lit 0) (.cons (.lit 0) (.cons (.lit 0) (.cons (.lit 0) (.cons (.lit 0) (.cons (.lit 0) (.cons (.lit 0) (.cons (.lit 0) (.cons (.lit 0) (.cons (.lit 0) (.cons (.lit 0) (.cons (.lit 0) (.cons (.lit 0) (.cons (.lit 0) (.cons (.lit 0) (.cons (.lit 0) (.cons (.lit 0) (.cons (.lit 0) (.cons (.lit 0) (.cons (.lit 0) (.cons (.lit 0) (.cons (.lit 0) (.cons (.lit 0) (.cons (.lit 0) (.cons (.lit 0) (.cons (.lit 0) (.cons (.lit 0) (.cons (.lit 0) (.cons (.lit 0) (.cons (.lit 0) (.cons (.lit 0) (.cons (.lit 0) (.cons (.lit 0) (.cons (.lit 0) (.cons (.lit 0) (.cons (.lit 0) (.cons (.lit 0) (.cons (.lit 0) (.cons (.lit 0) (.cons (.lit 0) (.cons (.lit 0) (.cons (.lit 0) (.cons (.lit 0) (.cons (.lit 0) (.cons (.lit 0) (.cons (.lit 0) (.cons (.lit 2) .nil)))))))))))))))))))))))))))))))))))))))))))))))))))))))))))))))))))))))))))))))))))))))))))))))))))))))))))))))))))))))))))))))))))))))))))))))))))))))))))))))))))))))))))))
(.call 2 ([.bool]) (.vs 174 9 .nil) 184
(.br (.bvar 184)
(.call 1 ([.int .i64] ++ [.bool]) (.vs 171 3 .nil) 185
(.br (.bvar 186)
(.br (.eq (.var 185) (.lit 0))
(.leaf (.vs 0 99 (.vs 174 9 (.vs 108 63 (.cons (.lit 0) .nil)))))
(.br (.eq (.var 185) (.lit 1))
(.leaf (.vs 0 108 (.vs 174 9 (.vs 117 54 (.cons (.lit 0) .nil)))))
(.br (.eq (.var 185) (.lit 2))
(.leaf (.vs 0 117 (.vs 174 9 (.vs 126 45 (.cons (.lit 0) .nil)))))
(.br (.eq (.var 185) (.lit 3))
(.leaf (.vs 0 126 (.vs 174 9 (.vs 135 36 (.cons (.lit 0) .nil)))))
(.br (.eq (.var 185) (.lit 4))
(.leaf (.vs 0 135 (.vs 174 9 (.vs 144 27 (.cons (.lit 0) .nil)))))
(.br (.eq (.var 185) (.lit 5))
(.leaf (.vs 0 144 (.vs 174 9 (.vs 153 18 (.cons (.lit 0) .nil)))))
(.br (.eq (.var 185) (.lit 6))
(.leaf (.vs 0 153 (.vs 174 9 (.vs 162 9 (.cons (.lit 0) .nil)))))
(.br (.eq (.var 185) (.lit 7))
(.leaf (.vs 0 162 (.vs 174 9 (.cons (.lit 0) .nil))))
.panic))))))))
(.loop 0 187 [.int .i64, .int .i8, .int .u64, .int .u64, .int .i64, .int .i64, .int .u64, .int .u64, .int .i64, .int .i64, .int .i8, .int .u64, .int .u64, .int .i64, .int .i64, .int .u64, .int .u64, .int .i64, .int .i64, .int .i8, .int .u64, .int .u64, .int .i64, .int .i64, .int .u64, .int .u64, .int .i64, .int .i64, .int .i8, .int .u64, .int .u64, .int .i64, .int .i64, .int .u64, .int .u64, .int .i64, .int .i64, .int .i8, .int .u64, .int .u64, .int .i64, .int .i64, .int .u64, .int .u64, .int .i64, .int .i64, .int .i8, .int .u64, .int .u64, .int .i64, .int .i64, .int .u64, .int .u64, .int .i64, .int .i64, .int .i8, .int .u64, .int .u64, .int .i64, .int .i64, .int .u64, .int .u64, .int .i64, .int .i64, .int .i8, .int .u64, .int .u64, .int .i64, .int .i64, .int .u64, .int .u64, .int .i64, .int .i64] (.cons (.bin .quo .i64 (.var 171) (.lit 8)) (.vs 99 72 .nil))
(.br (.lt (.bin .quo .i64 (.bin .sub .i64 (.bin .add .i64 (.var 172) (.var 173)) (.lit 1)) (.lit 8)) (.var 187))
(.leaf (.vs 0 99 (.vs 188 72 (.cons (.lit 0) .nil))))
(.call 3 (kTy) .nil 260
(.br (.eq (.var 187) (.lit 0))
(.next 0 (.cons (.bin .add .i64 (.var 187) (.lit 1)) (.vs 260 9 (.vs 197 63 .nil))))
(.br (.eq (.var 187) (.lit 1))
(.next 0 (.cons (.bin .add .i64 (.var 187) (.lit 1)) (.vs 188 9 (.vs 260 9 (.vs 206 54 .nil)))))
(.br (.eq (.var 187) (.lit 2))
(.next 0 (.cons (.bin .add .i64 (.var 187) (.lit 1)) (.vs 188 18 (.vs 260 9 (.vs 215 45 .nil)))))
(.br (.eq (.var 187) (.lit 3))
(.next 0 (.cons (.bin .add .i64 (.var 187) (.lit 1)) (.vs 188 27 (.vs 260 9 (.vs 224 36 .nil)))))
(.br (.eq (.var 187) (.lit 4))
(.next 0 (.cons (.bin .add .i64 (.var 187) (.lit 1)) (.vs 188 36 (.vs 260 9 (.vs 233 27 .nil)))))
(.br (.eq (.var 187) (.lit 5))
(.next 0 (.cons (.bin .add .i64 (.var 187) (.lit 1)) (.vs 188 45 (.vs 260 9 (.vs 242 18 .nil)))))
(.br (.eq (.var 187) (.lit 6))
(.next 0 (.cons (.bin .add .i64 (.var 187) (.lit 1)) (.vs 188 54 (.vs 260 9 (.vs 251 9 .nil)))))
(.br (.eq (.var 187) (.lit 7))
(.next 0 (.cons (.bin .add .i64 (.var 187) (.lit 1)) (.vs 188 63 (.vs 260 9 .nil))))
.panic)))))))))))))
(.leaf (.cons (.lit 0) (.cons (.lit 0) (.cons (.lit 0) (.cons (.lit 0) (.cons (.lit 0) (.cons (.lit 0) (.cons (.lit 0) (.cons (.lit 0) (.cons (.lit 0) (.cons (.lit 0) (.cons (.lit 0) (.cons (.lit 0) (.cons (.lit 0) (.cons (.lit 0) (.cons (.lit 0) (.cons (.lit 0) (.cons (.lit 0) (.cons (.lit 0) (.cons (.lit 0) (.cons (.lit 0) (.cons (.lit 0) (.cons (.lit 0) (.cons (.lit 0) (.cons (.lit 0) (.cons (.lit 0) (.cons (.lit 0) (.cons (.lit 0) (.cons (.lit 0) (.cons (.lit 0) (.cons (.lit 0) (.cons (.lit 0) (.cons (.lit 0) (.cons (.lit 0) (.cons (.lit 0) (.cons (.lit 0) (.cons (.lit 0) (.cons (.lit 0) (.cons (.lit 0) (.cons (.lit 0) (.cons (.lit 0) (.cons (.lit 0) (.cons (.lit 0) (.cons (.lit 0) (.cons (.lit 0) (.cons (.lit 0) (.cons (.lit 0) (.cons (.lit 0) (.cons (.lit 0) (.cons (.lit 0) (.cons (.lit 0) (.cons (.lit 0) (.cons (.lit 0) (.cons (.lit 0) (.cons (.lit 0) (.cons (.lit 0) (.cons (.lit 0) (.cons (.lit 0) (.cons (.lit 0) (.cons (.lit 0) (.cons (.lit 0) (.cons (.lit 0) (.cons (.lit 0) (.cons (.lit 0) (.cons (.lit 0) (.cons (.lit 0) (.cons (.lit 0) (.cons (.lit 0) (.cons (.lit 0) (.cons (.lit 0) (.cons (.lit 0) (.cons (.lit 0) (.cons (.lit 0) (.cons (.lit 0) (.cons (.lit 0) (.cons (.lit 0) (.cons (.lit 0) (.cons (.lit 0) (.cons (.lit 0) (.cons (.lit 0) (.cons (.lit 0) (.cons (.lit 0) (.cons (.lit 0) (.cons (.lit 0) (.cons (.lit 0) (.cons (.lit 0) (.cons (.lit 0) (.cons (.lit 0) (.cons (.lit 0) (.cons (.lit 0) (.cons (.lit 0) (.cons (.lit 0) (.cons (.lit 0) (.cons (.lit 0) (.cons (.lit 0) (.cons (.lit 0) (.cons (.lit 0) (.cons (.lit 0) (.cons (.lit 0) (.cons (.lit 0) (.cons (.lit 0) (.cons (.lit 0) (.cons (.lit 0) (.cons (.lit 0) (.cons (.lit 0) (.cons (.lit 0) (.cons (.lit 0) (.cons (.lit 0) (.cons (.lit 0) (.cons (.lit 0) (.cons (.lit 0) (.cons (.lit 0) (.cons (.lit 0) (.cons (.lit 0) (.cons (.lit 0) (.cons (.lit 0) (.cons (.lit 0) (.cons (.lit 0) (.cons (.lit 0) (.cons (.lit 0) (.cons (.lit 0) (.cons (.lit 0) (.cons (.lit 0) (.cons (.lit 0) (.cons (.lit 0) (.cons (.lit 0) (.cons (.lit 0) (.cons (.lit 0) (.cons (.lit 0) (.cons (.lit 0) (.cons (.lit 0) (.cons (.lit 0) (.cons (.lit 0) (.cons (.lit 0) (.cons (.lit 0) (.cons (.lit 0) (.cons (.lit 0) (.cons (.lit 0) (.cons (.lit 0) (.cons (.lit 0) (.cons (.lit 0) (.cons (.lit 0) (.cons (.lit 0) (.cons (.lit 0) (.cons (.lit 0) (.cons (.lit 0) (.cons (.lit 0) (.cons (.lit 0) (.cons (.lit 0) (.cons (.lit 0) (.cons (.lit 0) (.cons (.lit 0) (.cons (.lit 0) (.cons (.lit 0) (.cons (.lit 0) (.cons (.lit 0) (.cons (.lit 0) (.cons (.lit 0) (.cons (.lit 0) (.cons (.lit 0) (.cons (.lit 0) (.cons (.lit 0) (.cons (.lit 0) (.cons (.lit 0) (.cons (.lit 0) (.cons (.lit 0) (.cons (.lit 0) (.cons (.lit 0) (.cons (.lit 0) (.cons (.lit 0) (.cons (.lit 0) (.cons (.lit 0) (.cons (.lit 2) .nil))))))))))))))))))))))))))))))))))))))))))))))))))))))))))))))))))))))))))))))))))))))))))))))))))))))))))))))))))))))))))))))))))))))))))))))))))))))))))))))))))))))))))))))))
(.leaf (.cons (.lit 0) (.cons (.lit 0) (.cons (.lit 0) (.cons (.lit 0) (.cons (.lit 0) (.cons (.lit 0) (.cons (.lit 0) (.cons (.lit 0) (.cons (.lit 0) (.cons (.lit 0) (.cons (.lit 0) (.cons (.lit 0) (.cons (.lit 0) (.cons (.lit 0) (.cons (.lit 0) (.cons (.lit 0) (.cons (.lit 0) (.cons (.lit 0) (.cons (.lit 0) (.cons (.lit 0) (.cons (.lit 0) (.cons (.lit 0) (.cons (.lit 0) (.cons (.lit 0) (.cons (.lit 0) (.cons (.lit 0) (.cons (.lit 0) (.cons (.lit 0) (.cons (.lit 0) (.cons (.lit 0) (.cons (.lit 0) (.cons (.lit 0) (.cons (.lit 0) (.cons (.lit 0) (.cons (.lit 0) (.cons (.lit 0) (.cons (.lit 0) (.cons (.lit 0) (.cons (.lit 0) (.cons (.lit 0) (.cons (.lit 0) (.cons (.lit 0) (.cons (.lit 0) (.cons (.lit 0) (.cons (.lit 0) (.cons (.lit 0) (.cons (.lit 0) (.cons (.lit 0) (.cons (.lit 0) (.cons (.lit 0) (.cons (.lit 0) (.cons (.lit 0) (.cons (.lit 0) (.cons (.lit 0) (.cons (.lit 0) (.cons (.lit 0) (.cons (.lit 0) (.cons (.lit 0) (.cons (.lit 0) (.cons (.lit 0) (.cons (.lit 0) (.cons (.lit 0) (.cons (.lit 0) (.cons (.lit 0) (.cons (.lit 0) (.cons (.lit 0) (.cons (.lit 0) (.cons (.lit 0) (.cons (.lit 0) (.cons (.lit 0) (.cons (.lit 0) (.cons (.lit 0) (.cons (.lit 0) (.cons (.lit 0) (.cons (.lit 0) (.cons (.lit 0) (.cons (.lit 0) (.cons (.lit 0) (.cons (.lit 0) (.cons (.lit 0) (.cons (.lit 0) (.cons (.lit 0) (.cons (.lit 0) (.cons (.lit 0) (.cons (.lit 0) (.cons (.lit 0) (.cons (.lit 0) (.cons (.lit 0) (.cons (.lit 0) (.cons (.lit 0) (.cons (.lit 0) (.cons (.lit 0) (.cons (.lit 0) (.cons (.lit 0) (.cons (.lit 0) (.cons (.lit 0) (.cons (.lit 0) (.cons (.lit 0) (.cons (.lit 0) (.cons (.lit 0) (.cons (.lit 0) (.cons (.lit 0) (.cons (.lit 0) (.cons (.lit 0) (.cons (.lit 0) (.cons (.lit 0) (.cons (.lit 0) (.cons (.lit 0) (.cons (.lit 0) (.cons (.lit 0) (.cons (.lit 0) (.cons (.lit 0) (.cons (.lit 0) (.cons (.lit 0) (.cons (.lit 0) (.cons (.lit 0) (.cons (.lit 0) (.cons (.lit 0) (.cons (.lit 0) (.cons (.lit 0) (.cons (.lit 0) (.cons (.lit 0) (.cons (.lit 0) (.cons (.lit 0) (.cons (.lit 0) (.cons (.lit 0) (.cons (.lit 0) (.cons (.lit 0) (.cons (.lit 0) (.cons (.lit 0) (.cons (.lit 0) (.cons (.lit 0) (.cons (.lit 0) (.cons (.lit 0) (.cons (.lit 0) (.cons (.lit 0) (.cons (.lit 0) (.cons (.lit 0) (.cons (.lit 0) (.cons (.lit 0) (.cons (.lit 0) (.cons (.lit 0) (.cons (.lit 0) (.cons (.lit 0) (.cons (.lit 0) (.cons (.lit 0) (.cons (.lit 0) (.cons (.lit 0) (.cons (.lit 0) (.cons (.lit 0) (.cons (.lit 0) (.cons (.lit 0) (.cons (.lit 0) (.cons (.lit 0) (.cons (.lit 0) (.cons (.lit 0) (.cons (.lit 0) (.cons (.lit 0) (.cons (.lit 0) (.cons (.lit 0) (.cons (.lit 0) (.cons (.lit 0) (.cons (.lit 0) (.cons (.lit 0) (.cons (.lit 0) (.cons (.lit 0) (.cons (.lit 0) (.cons (.lit 0) (.cons (.lit 0) (.cons (.lit 0) (.cons (.lit 0) (.cons (.lit 2) .nil)))))))))))))))))))))))))))))))))))))))))))))))))))))))))))))))))))))))))))))))))))))))))))))))))))))))))))))))))))))))))))))))))))))))))))))))))))))))))))))))))))))))))))))))
def sP_tstore : Spec := ⟨fun k => match k with | 0 => sF_tacc | 1 => sF_texa | 2 => sF_ttok | 3 => sF_tscal | _ => fun _ => [], fun k => match k with | _ => fun _ => True⟩
set_option maxRecDepth 100000 in
theorem sR_tstore : treeIs tys_SdF [sM_tacc 0, sM_texa 1, sM_ttok 2, sM_tscal 3] [] [(8, [.tmpI 14 .i64, .celI 0 99 .i8, .celI 0 100 .u64, .celI 0 101 .u64, .celI 0 102 .i64, .celI 0 103 .i64, .celI 0 104 .u64, .celI 0 105 .u64, .celI 0 106 .i64, .celI 0 107 .i64, .celI 0 108 .i8, .celI 0 109 .u64, .celI 0 110 .u64, .celI 0 111 .i64, .celI 0 112 .i64, .celI 0 113 .u64, .celI 0 114 .u64, .celI 0 115 .i64, .celI 0 116 .i64, .celI 0 117 .i8, .celI 0 118 .u64, .celI 0 119 .u64, .celI 0 120 .i64, .celI 0 121 .i64, .celI 0 122 .u64, .celI 0 123 .u64, .celI 0 124 .i64, .celI 0 125 .i64, .celI 0 126 .i8, .celI 0 127 .u64, .celI 0 128 .u64, .celI 0 129 .i64, .celI 0 130 .i64, .celI 0 131 .u64, .celI 0 132 .u64, .celI 0 133 .i64, .celI 0 134 .i64, .celI 0 135 .i8, .celI 0 136 .u64, .celI 0 137 .u64, .celI 0 138 .i64, .celI 0 139 .i64, .celI 0 140 .u64, .celI 0 141 .u64, .celI 0 142 .i64, .celI 0 143 .i64, .celI 0 144 .i8, .celI 0 145 .u64, .celI 0 146 .u64, .celI 0 147 .i64, .celI 0 148 .i64, .celI 0 149 .u64, .celI 0 150 .u64, .celI 0 151 .i64, .celI 0 152 .i64, .celI 0 153 .i8, .celI 0 154 .u64, .celI 0 155 .u64, .celI 0 156 .i64, .celI 0 157 .i64, .celI 0 158 .u64, .celI 0 159 .u64, .celI 0 160 .i64, .celI 0 161 .i64, .celI 0 162 .i8, .celI 0 163 .u64, .celI 0 164 .u64, .celI 0 165 .i64, .celI 0 166 .i64, .celI 0 167 .u64, .celI 0 168 .u64, .celI 0 169 .i64, .celI 0 170 .i64, .top 0, .top 1, .top 4, .top 6, .top 7, .top 8, .top 9, .top 11, .top 12, .top 13, .top 15, .top 16, .top 17, .top 18, .top 19, .top 20, .top 21, .top 22, .top 23, .top 24, .top 25, .top 26, .top 27, .top 28, .top 29, .top 30, .top 31, .top 32, .top 33, .top 34, .top 35, .top 36, .top 37, .top 38, .top 39, .top 40, .top 41, .top 42, .top 43, .top 44, .top 45, .top 46, .top 47, .top 48, .top 49, .top 50, .top 51, .top 52, .top 53, .top 54, .top 55, .top 56, .top 57, .top 58, .top 59, .top 60])] [] 200 Try.f11 [.agg kSta, .one (.int .i64), .one (.int .i64), .one (.int .i64), .agg kTy] [.agg kSta, .one (.int .i64)] true (v_Sta ( .int .i64 :: ( .int .i64 :: ( .int .i64 :: ( v_Ty ([])))))) sT_tstore := ⟨by kernel_rfl, by kernel_rfl, by kernel_rfl⟩
set_option maxRecDepth 100000 in
set_option maxHeartbeats 8000000 in
theorem sX_tstore (s : Sta) (hs : Sta.ok s) (lo : Int) (hlo : inK .i64 lo = true) (hi : Int) (hhi : inK .i64 hi = true) (size : Int) (hsize : inK .i64 size = true) (t : Ty) (ht : Ty.ok t) (ρ : Env) (g : varsD ρ 0 (v_Sta ( .int .i64 :: ( .int .i64 :: ( .int .i64 :: ( v_Ty ([])))))) = (d_Sta s ( .z lo :: ( .z hi :: ( .z size :: ( d_Ty t ([]))))))) : sT_tstore.asks sP_tstore (fun ρ e => e.D ρ = sF_tstore (d_Sta s ( .z lo :: ( .z hi :: ( .z size :: ( d_Ty t ([]))))))) ρ fun _ _ => False := by
  have keepg := g
  simp only [sF_tstore, rd_Sta_d, rd_Ty_d, rdZ, rdB]
  simp only [d_Sta, d_Ty, v_Sta, v_Ty, varsD, varD, List.cons.injEq, Dt.z.injEq, Dt.l.injEq, b2i_eq_iff, Nat.reduceAdd, and_true] at g
  simp (maxSteps := 10000000) only [sT_tstore, sP_tstore, d_Sta, d_Ty, kTy, rd_Sta, rd_Ty, rdZ, sF_tacc, sF_texa, sF_ttok, sF_tscal, sV_tacc, sV_texa, sV_ttok, sF_tstore, sV_tstore, Tr.asks, upd_same, okDs, okD, eqs, E.I, E.B, E.L, E.R, E.D, E.vs, dI, dB, dL, varD, varsD, List.getElem?_cons_zero, List.getElem?_cons_succ, List.cons_append, List.nil_append, Nat.zero_add, Nat.add_zero, Nat.reduceAdd, and_true, true_and, b2i_one, -eq_self, etasX, g]
  intro e; (try simp only [e, etasX, -eq_self]); clear e
  refine ⟨fun c0 => ?_, fun c0 => ?_⟩
  refine ⟨fun c1 => ?_, fun c1 => ?_⟩
  · rw [(sstore_no (.inr (tset_k c1))).1, (sstore_no (.inr (tset_k c1))).2]; rfl
  intro e; (try simp only [e, etasX, -eq_self]); clear e
  refine ⟨fun c2 => ?_, fun c2 => ?_⟩
  intro e; (try simp only [e, etasX, -eq_self]); clear e
  refine ⟨fun c3 => ?_, fun c3 => ?_⟩
  refine ⟨fun c4 => ?_, fun c4 => ?_⟩
  · have e := eqz c4
    rw [(sstore_one c0 (tset_y c1 c2) c3).1, (sstore_one c0 (tset_y c1 c2) c3).2, e]; rfl
  refine ⟨fun c5 => ?_, fun c5 => ?_⟩
  · have e := eqz c5
    rw [(sstore_one c0 (tset_y c1 c2) c3).1, (sstore_one c0 (tset_y c1 c2) c3).2, e]; rfl
  refine ⟨fun c6 => ?_, fun c6 => ?_⟩
  · have e := eqz c6
    rw [(sstore_one c0 (tset_y c1 c2) c3).1, (sstore_one c0 (tset_y c1 c2) c3).2, e]; rfl
  refine ⟨fun c7 => ?_, fun c7 => ?_⟩
  · have e := eqz c7
    rw [(sstore_one c0 (tset_y c1 c2) c3).1, (sstore_one c0 (tset_y c1 c2) c3).2, e]; rfl
  refine ⟨fun c8 => ?_, fun c8 => ?_⟩
  · have e := eqz c8
    rw [(sstore_one c0 (tset_y c1 c2) c3).1, (sstore_one c0 (tset_y c1 c2) c3).2, e]; rfl
  refine ⟨fun c9 => ?_, fun c9 => ?_⟩
  · have e := eqz c9
    rw [(sstore_one c0 (tset_y c1 c2) c3).1, (sstore_one c0 (tset_y c1 c2) c3).2, e]; rfl
  refine ⟨fun c10 => ?_, fun c10 => ?_⟩
  · have e := eqz c10
    rw [(sstore_one c0 (tset_y c1 c2) c3).1, (sstore_one c0 (tset_y c1 c2) c3).2, e]; rfl
  refine ⟨fun c11 => ?_, fun c11 => ?_⟩
  · have e := eqz c11
    rw [(sstore_one c0 (tset_y c1 c2) c3).1, (sstore_one c0 (tset_y c1 c2) c3).2, e]; rfl
  · exact pick_no c0 rfl c4 c5 c6 c7 c8 c9 c10 c11
  obtain ⟨q1, q2, q3, q4, q5⟩ := smac_bd c0
  refine ⟨fun ds => ∃ n : Int, ds = .z n :: slotD (sput s (pbet (lo / 8) n) tscal) ∧ lo / 8 ≤ n ∧ n ≤ (hi + size - 1) / 8 + 1, fun ds => (100 - dI ds 0).toNat, ⟨lo / 8, by rw [quo8 q2 (by omega), sput_none (fun k h0 h1 => by unfold pbet; simp)]; try rfl, by omega, by omega⟩, ?_⟩
  intro ρ1 ha1 _ hi1
  obtain ⟨n, hds, r1, r2⟩ := hi1
  simp only [slotD, List.cons.injEq, Dt.z.injEq, Nat.reduceAdd, and_true] at hds
  have keepg1 := (varsD_ag ha1 _ 0 (by decide)).trans keepg
  have g1 := keepg1
  simp only [d_Ty, v_Ty, d_Sta, v_Sta, d_Snap, v_Snap, d_Fr, v_Fr, varsD, varD, List.cons.injEq, Dt.z.injEq, Dt.l.injEq, b2i_eq_iff, Nat.reduceAdd, and_true] at g1
  simp only [g1, hds, -eq_self]
  refine ⟨fun c12 => ?_, fun c12 => ?_⟩
  · have h9 := of_decide_eq_true c12
    have q6 := (last8 c0).1
    rw [q6] at h9
    rw [(sstore_some c0 (tset_y c1 c2) c3).1, (sstore_some c0 (tset_y c1 c2) c3).2, ← end_bet c0 (n := n) (by omega) (by omega)]; rfl
  intro e; (try simp only [e, etasX, -eq_self]); clear e
  refine ⟨fun c13 => ?_, fun c13 => ?_⟩
  · have h9 := of_decide_eq_false c12
    have q6 := (last8 c0).1
    rw [q6] at h9
    have e := eqz c13
    subst e
    refine ⟨⟨1, ?_, by omega, by omega⟩, ?_⟩
    · rw [sput_at0 (q := pbet (lo / 8) 1) (p := pbet (lo / 8) 0) (fun k _ _ => bet_step (n := 0) (by omega))]; rfl
    · show (100 - (1 : Int)).toNat < (100 - (0 : Int)).toNat; decide
  refine ⟨fun c14 => ?_, fun c14 => ?_⟩
  · have h9 := of_decide_eq_false c12
    have q6 := (last8 c0).1
    rw [q6] at h9
    have e := eqz c14
    subst e
    refine ⟨⟨2, ?_, by omega, by omega⟩, ?_⟩
    · rw [sput_at1 (q := pbet (lo / 8) 2) (p := pbet (lo / 8) 1) (fun k _ _ => bet_step (n := 1) (by omega))]; rfl
    · show (100 - (2 : Int)).toNat < (100 - (1 : Int)).toNat; decide
  refine ⟨fun c15 => ?_, fun c15 => ?_⟩
  · have h9 := of_decide_eq_false c12
    have q6 := (last8 c0).1
    rw [q6] at h9
    have e := eqz c15
    subst e
    refine ⟨⟨3, ?_, by omega, by omega⟩, ?_⟩
    · rw [sput_at2 (q := pbet (lo / 8) 3) (p := pbet (lo / 8) 2) (fun k _ _ => bet_step (n := 2) (by omega))]; rfl
    · show (100 - (3 : Int)).toNat < (100 - (2 : Int)).toNat; decide
  refine ⟨fun c16 => ?_, fun c16 => ?_⟩
  · have h9 := of_decide_eq_false c12
    have q6 := (last8 c0).1
    rw [q6] at h9
    have e := eqz c16
    subst e
    refine ⟨⟨4, ?_, by omega, by omega⟩, ?_⟩
    · rw [sput_at3 (q := pbet (lo / 8) 4) (p := pbet (lo / 8) 3) (fun k _ _ => bet_step (n := 3) (by omega))]; rfl
    · show (100 - (4 : Int)).toNat < (100 - (3 : Int)).toNat; decide
  refine ⟨fun c17 => ?_, fun c17 => ?_⟩
  · have h9 := of_decide_eq_false c12
    have q6 := (last8 c0).1
    rw [q6] at h9
    have e := eqz c17
    subst e
    refine ⟨⟨5, ?_, by omega, by omega⟩, ?_⟩
    · rw [sput_at4 (q := pbet (lo / 8) 5) (p := pbet (lo / 8) 4) (fun k _ _ => bet_step (n := 4) (by omega))]; rfl
    · show (100 - (5 : Int)).toNat < (100 - (4 : Int)).toNat; decide
  refine ⟨fun c18 => ?_, fun c18 => ?_⟩
  · have h9 := of_decide_eq_false c12
    have q6 := (last8 c0).1
    rw [q6] at h9
    have e := eqz c18
    subst e
    refine ⟨⟨6, ?_, by omega, by omega⟩, ?_⟩
    · rw [sput_at5 (q := pbet (lo / 8) 6) (p := pbet (lo / 8) 5) (fun k _ _ => bet_step (n := 5) (by omega))]; rfl
    · show (100 - (6 : Int)).toNat < (100 - (5 : Int)).toNat; decide
  refine ⟨fun c19 => ?_, fun c19 => ?_⟩
  · have h9 := of_decide_eq_false c12
    have q6 := (last8 c0).1
    rw [q6] at h9
    have e := eqz c19
    subst e
    refine ⟨⟨7, ?_, by omega, by omega⟩, ?_⟩
    · rw [sput_at6 (q := pbet (lo / 8) 7) (p := pbet (lo / 8) 6) (fun k _ _ => bet_step (n := 6) (by omega))]; rfl
    · show (100 - (7 : Int)).toNat < (100 - (6 : Int)).toNat; decide
  refine ⟨fun c20 => ?_, fun c20 => ?_⟩
  · have h9 := of_decide_eq_false c12
    have q6 := (last8 c0).1
    rw [q6] at h9
    have e := eqz c20
    subst e
    refine ⟨⟨8, ?_, by omega, by omega⟩, ?_⟩
    · rw [sput_at7 (q := pbet (lo / 8) 8) (p := pbet (lo / 8) 7) (fun k _ _ => bet_step (n := 7) (by omega))]; rfl
    · show (100 - (8 : Int)).toNat < (100 - (7 : Int)).toNat; decide
  · have h9 := of_decide_eq_false c12
    have q6 := (last8 c0).1
    rw [q6] at h9
    simp only [beq_eq_false_iff_ne] at c13 c14 c15 c16 c17 c18 c19 c20
    omega
  · rw [(sstore_no (.inr (tset_t c2))).1, (sstore_no (.inr (tset_t c2))).2]; rfl
  · rw [(sstore_no (.inl c0)).1, (sstore_no (.inl c0)).2]; rfl
theorem sK_tstore {sp : Spec} {key : Nat} (hF : sp.F key = sF_tstore) (hP : sp.pre key = fun _ => True := by rfl) : SmOk Try.prog sp (sM_tstore key) :=
  fun_ok (s := sM_tstore key) hF hP (by kernel_rfl) tysok_SdF (smc (sK_tacc rfl) (smc (sK_texa rfl) (smc (sK_ttok rfl) (smc (sK_tscal rfl) sm0)))) Try.func11 fn0 sR_tstore (.inl rfl) (for_Sta fun q0 gq0 => fun x171 gx171 x172 gx172 x173 gx173 => for_Ty fun q7 gq7 => fun  hp ρ g => sX_tstore q0 gq0 x171 gx171 x172 gx172 x173 gx173 q7 gq7 ρ g)
end Go.Proofs.Ytgfghplnankgnaa

