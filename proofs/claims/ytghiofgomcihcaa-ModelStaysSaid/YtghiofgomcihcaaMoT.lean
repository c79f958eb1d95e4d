import Derived.Test.YtghiofgomcihcaaMoF
import Derived.Test.YtghiofgomcihcaaMoS
import Derived.Test.YtghiofgomcihcaaLiL
import Derived.Test.YtghiofgomcihcaaLiQ
import Derived.Test.YtghiofgomcihcaaProg
import Derived.Laws.Externs
set_option linter.unusedVariables false
set_option linter.unusedSimpArgs false
namespace Go.Proofs.Ytghiofgomcihcaa
open Go.RowKit Go.ChangeShapes Go.WideShapes
theorem rwU8 : Rw Try.prog 5 [some .u8] := Rw.int .u8 Try.underlying5 (by kernel_rfl)
theorem rwU64 : Rw Try.prog 30 [some .u64] := Rw.int .u64 Try.underlying30 (by kernel_rfl)
set_option maxRecDepth 100000 in
def z_A64 : List C := repC [.int .u8 (.lit 0)] 64
theorem grd_A64 : Try.prog.eqGuardType Try.prog.depth 54 = false := by kernel_rfl
set_option maxRecDepth 100000 in
theorem kl_A64 : Kl Try.prog 7 54 z_A64 := Kl.array (d := 6) (Kl.int (d := 5) (.lit 0) Try.underlying5) Try.underlying54 (by kernel_rfl) (by kernel_rfl)
set_option maxRecDepth 100000 in
theorem fm_A64 (vs : List Value) (hv : kindsV vs z_A64) : (Value.agg vs.toArray).formed Try.prog 54 = true := by
 have hl : vs.length = 64 := (kindsV_len hv).trans (by kernel_rfl)
 have hc : Try.prog.cellsOf 54 = 64 := by kernel_rfl
 simp [Value.formed, Try.underlying54, hc, hl]
theorem eq_A64 (vs us : List Value) (hv : kindsV vs z_A64) (hu : kindsV us z_A64) (w : World) : (Op.equal 54 (.agg vs.toArray) (.agg us.toArray)).run Try.prog w = .ok (eqVs vs us) w :=
 eq_of_keys (by kernel_rfl) fm_A64 7 kl_A64 vs us hv hu w
def tys_MoT : List (Nat × TI) := [(3, ⟨false, 1, [.int .i64 (.lit 0)], [], none, some .i64, false, false, none, 8, false, none, false, 0⟩),
 (4, ⟨false, 1, [.bool (.tt false)], [], none, none, false, true, none, 1, false, none, false, 0⟩),
 (5, ⟨false, 1, [.int .u8 (.lit 0)], [], none, some .u8, false, false, none, 1, false, none, false, 0⟩),
 (22, ⟨false, 1, [.nsl], [], none, none, false, false, some 44, 24, false, none, false, 0⟩),
 (24, ⟨true, 2, [.int .i64 (.lit 0), .nsl], [(0, 3), (1, 22)], none, none, false, false, none, 32, false, none, false, 0⟩),
 (25, ⟨false, 1, [.nsl], [], none, none, false, false, some 5, 24, false, none, false, 0⟩),
 (26, ⟨false, 1, [.nsl], [], none, none, false, false, some 30, 24, false, none, false, 0⟩),
 (29, ⟨false, 1, [.int .i8 (.lit 0)], [], none, some .i8, false, false, none, 1, false, none, false, 0⟩),
 (30, ⟨false, 1, [.int .u64 (.lit 0)], [], none, some .u64, false, false, none, 8, false, none, false, 0⟩),
 (31, ⟨false, 1, [.nsl], [], none, none, false, false, some 39, 24, false, none, false, 0⟩),
 (34, ⟨false, 1, [.int .i64 (.lit 0)], [], none, some .i64, false, false, none, 8, false, none, false, 0⟩),
 (39, ⟨true, 3, [.int .i64 (.lit 0), .nsl, .int .u64 (.lit 0)], [(0, 3), (1, 26), (2, 30)], none, none, false, false, none, 40, false, none, false, 0⟩),
 (44, ⟨true, 9, [.int .i8 (.lit 0), .int .i8 (.lit 0), .int .i8 (.lit 0), .int .i8 (.lit 0), .bool (.tt false), .int .i8 (.lit 0), .int .i8 (.lit 0), .int .i64 (.lit 0), .int .i64 (.lit 0)], [(0, 29), (1, 29), (2, 29), (3, 29), (4, 4), (5, 29), (6, 29), (7, 3), (8, 3)], none, none, true, false, none, 24, false, none, false, 0⟩),
 (51, ⟨false, 1, [.nilf], [], none, none, false, false, none, 8, true, none, false, 0⟩),
 (53, ⟨true, 11, [.int .u64 (.lit 0), .int .u64 (.lit 0), .int .u64 (.lit 0), .int .u64 (.lit 0), .int .u64 (.lit 0), .int .u64 (.lit 0), .int .u64 (.lit 0), .int .u64 (.lit 0), .int .u64 (.lit 0), .int .u64 (.lit 0), .int .u64 (.lit 0)], [], some (11, 30), none, false, false, none, 88, false, none, false, 0⟩),
 (54, ⟨true, 64, [.int .u8 (.lit 0), .int .u8 (.lit 0), .int .u8 (.lit 0), .int .u8 (.lit 0), .int .u8 (.lit 0), .int .u8 (.lit 0), .int .u8 (.lit 0), .int .u8 (.lit 0), .int .u8 (.lit 0), .int .u8 (.lit 0), .int .u8 (.lit 0), .int .u8 (.lit 0), .int .u8 (.lit 0), .int .u8 (.lit 0), .int .u8 (.lit 0), .int .u8 (.lit 0), .int .u8 (.lit 0), .int .u8 (.lit 0), .int .u8 (.lit 0), .int .u8 (.lit 0), .int .u8 (.lit 0), .int .u8 (.lit 0), .int .u8 (.lit 0), .int .u8 (.lit 0), .int .u8 (.lit 0), .int .u8 (.lit 0), .int .u8 (.lit 0), .int .u8 (.lit 0), .int .u8 (.lit 0), .int .u8 (.lit 0), .int .u8 (.lit 0), .int .u8 (.lit 0), .int .u8 (.lit 0), .int .u8 (.lit 0), .int .u8 (.lit 0), .int .u8 (.lit 0), .int .u8 (.lit 0), .int .u8 (.lit 0), .int .u8 (.lit 0), .int .u8 (.lit 0), .int .u8 (.lit 0), .int .u8 (.lit 0), .int .u8 (.lit 0), .int .u8 (.lit 0), .int .u8 (.lit 0), .int .u8 (.lit 0), .int .u8 (.lit 0), .int .u8 (.lit 0), .int .u8 (.lit 0), .int .u8 (.lit 0), .int .u8 (.lit 0), .int .u8 (.lit 0), .int .u8 (.lit 0), .int .u8 (.lit 0), .int .u8 (.lit 0), .int .u8 (.lit 0), .int .u8 (.lit 0), .int .u8 (.lit 0), .int .u8 (.lit 0), .int .u8 (.lit 0), .int .u8 (.lit 0), .int .u8 (.lit 0), .int .u8 (.lit 0), .int .u8 (.lit 0)], [], some (64, 5), none, true, false, none, 64, false, none, false, 0⟩),
 (56, ⟨true, 76, [.int .u64 (.lit 0), .int .u64 (.lit 0), .int .u64 (.lit 0), .int .u64 (.lit 0), .int .u64 (.lit 0), .int .u64 (.lit 0), .int .u64 (.lit 0), .int .u64 (.lit 0), .int .u64 (.lit 0), .int .u64 (.lit 0), .int .u64 (.lit 0), .int .i64 (.lit 0), .int .u8 (.lit 0), .int .u8 (.lit 0), .int .u8 (.lit 0), .int .u8 (.lit 0), .int .u8 (.lit 0), .int .u8 (.lit 0), .int .u8 (.lit 0), .int .u8 (.lit 0), .int .u8 (.lit 0), .int .u8 (.lit 0), .int .u8 (.lit 0), .int .u8 (.lit 0), .int .u8 (.lit 0), .int .u8 (.lit 0), .int .u8 (.lit 0), .int .u8 (.lit 0), .int .u8 (.lit 0), .int .u8 (.lit 0), .int .u8 (.lit 0), .int .u8 (.lit 0), .int .u8 (.lit 0), .int .u8 (.lit 0), .int .u8 (.lit 0), .int .u8 (.lit 0), .int .u8 (.lit 0), .int .u8 (.lit 0), .int .u8 (.lit 0), .int .u8 (.lit 0), .int .u8 (.lit 0), .int .u8 (.lit 0), .int .u8 (.lit 0), .int .u8 (.lit 0), .int .u8 (.lit 0), .int .u8 (.lit 0), .int .u8 (.lit 0), .int .u8 (.lit 0), .int .u8 (.lit 0), .int .u8 (.lit 0), .int .u8 (.lit 0), .int .u8 (.lit 0), .int .u8 (.lit 0), .int .u8 (.lit 0), .int .u8 (.lit 0), .int .u8 (.lit 0), .int .u8 (.lit 0), .int .u8 (.lit 0), .int .u8 (.lit 0), .int .u8 (.lit 0), .int .u8 (.lit 0), .int .u8 (.lit 0), .int .u8 (.lit 0), .int .u8 (.lit 0), .int .u8 (.lit 0), .int .u8 (.lit 0), .int .u8 (.lit 0), .int .u8 (.lit 0), .int .u8 (.lit 0), .int .u8 (.lit 0), .int .u8 (.lit 0), .int .u8 (.lit 0), .int .u8 (.lit 0), .int .u8 (.lit 0), .int .u8 (.lit 0), .int .u8 (.lit 0)], [(0, 53), (11, 3), (12, 54)], none, none, false, false, none, 160, false, none, false, 0⟩),
 (62, ⟨false, 1, [.nilp], [], none, none, false, false, none, 8, false, none, false, 1⟩),
 (66, ⟨false, 1, [.nilp], [], none, none, false, false, none, 8, false, none, false, 1⟩),
 (67, ⟨false, 1, [.nilp], [], none, none, false, false, none, 8, false, none, false, 1⟩),
 (69, ⟨true, 84, [.int .i64 (.lit 0), .nsl, .nilp, .int .u64 (.lit 0), .int .u64 (.lit 0), .int .u64 (.lit 0), .int .u64 (.lit 0), .int .u64 (.lit 0), .int .u64 (.lit 0), .int .u64 (.lit 0), .int .u64 (.lit 0), .int .u64 (.lit 0), .int .u64 (.lit 0), .int .u64 (.lit 0), .int .i64 (.lit 0), .int .u8 (.lit 0), .int .u8 (.lit 0), .int .u8 (.lit 0), .int .u8 (.lit 0), .int .u8 (.lit 0), .int .u8 (.lit 0), .int .u8 (.lit 0), .int .u8 (.lit 0), .int .u8 (.lit 0), .int .u8 (.lit 0), .int .u8 (.lit 0), .int .u8 (.lit 0), .int .u8 (.lit 0), .int .u8 (.lit 0), .int .u8 (.lit 0), .int .u8 (.lit 0), .int .u8 (.lit 0), .int .u8 (.lit 0), .int .u8 (.lit 0), .int .u8 (.lit 0), .int .u8 (.lit 0), .int .u8 (.lit 0), .int .u8 (.lit 0), .int .u8 (.lit 0), .int .u8 (.lit 0), .int .u8 (.lit 0), .int .u8 (.lit 0), .int .u8 (.lit 0), .int .u8 (.lit 0), .int .u8 (.lit 0), .int .u8 (.lit 0), .int .u8 (.lit 0), .int .u8 (.lit 0), .int .u8 (.lit 0), .int .u8 (.lit 0), .int .u8 (.lit 0), .int .u8 (.lit 0), .int .u8 (.lit 0), .int .u8 (.lit 0), .int .u8 (.lit 0), .int .u8 (.lit 0), .int .u8 (.lit 0), .int .u8 (.lit 0), .int .u8 (.lit 0), .int .u8 (.lit 0), .int .u8 (.lit 0), .int .u8 (.lit 0), .int .u8 (.lit 0), .int .u8 (.lit 0), .int .u8 (.lit 0), .int .u8 (.lit 0), .int .u8 (.lit 0), .int .u8 (.lit 0), .int .u8 (.lit 0), .int .u8 (.lit 0), .int .u8 (.lit 0), .int .u8 (.lit 0), .int .u8 (.lit 0), .int .u8 (.lit 0), .int .u8 (.lit 0), .int .u8 (.lit 0), .int .u8 (.lit 0), .int .u8 (.lit 0), .int .u8 (.lit 0), .int .i64 (.lit 0), .int .i64 (.lit 0), .nsl, .nsl, .int .i8 (.lit 0)], [(0, 24), (2, 67), (3, 56), (79, 3), (80, 3), (81, 26), (82, 31), (83, 29)], none, none, false, false, none, 272, false, none, false, 0⟩),
 (81, ⟨false, 1, [.nilf], [], none, none, false, false, none, 8, true, none, false, 0⟩),
 (106, ⟨true, 3, [.int .u64 (.lit 0), .nsl, .bool (.tt false)], [(0, 30), (1, 25), (2, 4)], none, none, false, false, none, 40, false, none, false, 0⟩),
 (107, ⟨true, 12, [.int .u64 (.lit 0), .nsl, .bool (.tt false), .int .u64 (.lit 0), .nsl, .bool (.tt false), .int .u64 (.lit 0), .nsl, .bool (.tt false), .int .u64 (.lit 0), .nsl, .bool (.tt false)], [], some (4, 106), none, false, false, none, 160, false, none, false, 0⟩),
 (109, ⟨true, 12, [.int .u64 (.lit 0), .nsl, .bool (.tt false), .int .u64 (.lit 0), .nsl, .bool (.tt false), .int .u64 (.lit 0), .nsl, .bool (.tt false), .int .u64 (.lit 0), .nsl, .bool (.tt false)], [(0, 107)], none, none, false, false, none, 160, false, none, false, 0⟩),
 (111, ⟨true, 7, [.nilf, .nilf, .nilf, .nilf, .nilf, .nilf, .nilf], [], some (7, 81), none, false, false, none, 56, false, none, false, 0⟩)]
set_option maxRecDepth 100000 in
theorem tysck_MoT : (tys_MoT.all fun p => ckTI Try.prog p.1 p.2) = true := by kernel_rfl
theorem tyseq_MoT : (tys_MoT.all fun p => !p.2.eqok || ((Nat.beq p.1 44 && kindsC p.2.zero z_Ins) || (Nat.beq p.1 54 && kindsC p.2.zero z_A64))) = true := by kernel_rfl
theorem tyskn_MoT : (tys_MoT.all fun p => !p.2.keyok) = true := by kernel_rfl
theorem tysok_MoT : ∀ t i, (t, i) ∈ tys_MoT → TIok Try.prog t i := by
 intro t i h
 refine TIok_of (all_at (f := ckTI Try.prog) tysck_MoT h) (fun he => ?_) (fun he => ?_) (fun he => ?_)
 ·have h1 := List.all_eq_true.1 tyseq_MoT (t, i) h
  simp only [he, Bool.not_true, Bool.false_or, Bool.or_eq_true, Bool.and_eq_true] at h1
  rcases h1 with h1 | h1
  ·have hs := h1.2
   obtain rfl := Nat.eq_of_beq_eq_true h1.1
   exact fun vs us hv hu => eq_Ins vs us (kindsV_of hs hv) (kindsV_of hs hu)
  ·have hs := h1.2
   obtain rfl := Nat.eq_of_beq_eq_true h1.1
   exact fun vs us hv hu => eq_A64 vs us (kindsV_of hs hv) (kindsV_of hs hu)
 ·have h1 := List.all_eq_true.1 tyseq_MoT (t, i) h
  simp only [he, Bool.not_true, Bool.false_or, Bool.or_eq_true, Bool.and_eq_true] at h1
  rcases h1 with h1 | h1
  ·have hs := h1.2
   obtain rfl := Nat.eq_of_beq_eq_true h1.1
   exact grd_Ins
  ·have hs := h1.2
   obtain rfl := Nat.eq_of_beq_eq_true h1.1
   exact grd_A64
 ·have h1 := List.all_eq_true.1 tyskn_MoT (t, i) h
  simp [he] at h1
def sV_lstays (p : Prog) (cx : List (List Int)) (an : List (List Int)) (fu : Int) : List Dt := [.z (b2i true)]
def sF_lstays : List Dt → List Dt
 | [.z x0, .l x1, .l x2, .l x3, .z x4] => sV_lstays ⟨x0, x1⟩ x2 x3 x4
 | _ => []
set_option maxRecDepth 100000 in
def sT_lstays : Tr :=
(.br (.lt (.lit 100) (.len (.lvar 1)))
(.call 10 [.bool] .nil 5
(.leaf (.consb (.bvar 5) .nil)))
(.br (.lt (.lit 400) (.len (.lvar 2)))
(.call 10 [.bool] .nil 5
(.leaf (.consb (.bvar 5) .nil)))
(.br (.lt (.lit 400) (.len (.lvar 3)))
(.call 10 [.bool] .nil 5
(.leaf (.consb (.bvar 5) .nil)))
(.br (.lt (.lit 2000) (.var 4))
(.br (.lt (.lit 10000) (.var 4))
(.call 11 [.int .i64, .int .i64] (.cons (.var 0) (.consl (.lvar 1) .nil)) 5
(.br (.eq (.var 6) (.lit 0))
(.call 3 [.int .i64, .int .i64] (.cons (.var 0) (.consl (.lvar 1) .nil)) 7
(.br (.eq (.var 8) (.lit 0))
(.br (.eq (.len (.lvar 2)) (.var 0))
(.br (.lt (.var 4) (.lit 0))
(.call 10 [.bool] .nil 9
(.leaf (.consb (.bvar 9) .nil)))
(.call 10 [.bool] .nil 9
(.leaf (.consb (.bvar 9) .nil))))
(.call 10 [.bool] .nil 9
(.leaf (.consb (.bvar 9) .nil))))
(.call 10 [.bool] .nil 9
(.leaf (.consb (.bvar 9) .nil)))))
(.call 10 [.bool] .nil 7
(.leaf (.consb (.bvar 7) .nil)))))
(.call 10 [.bool] .nil 5
(.leaf (.consb (.bvar 5) .nil))))
(.call 11 [.int .i64, .int .i64] (.cons (.var 0) (.consl (.lvar 1) .nil)) 5
(.br (.eq (.var 6) (.lit 0))
(.call 3 [.int .i64, .int .i64] (.cons (.var 0) (.consl (.lvar 1) .nil)) 7
(.br (.eq (.var 8) (.lit 0))
(.br (.eq (.len (.lvar 2)) (.var 0))
(.br (.lt (.var 4) (.lit 0))
(.call 10 [.bool] .nil 9
(.leaf (.consb (.bvar 9) .nil)))
(.br (.lt (.lit 10000) (.var 4))
(.call 10 [.bool] .nil 9
(.leaf (.consb (.bvar 9) .nil)))
(.br (.lt (.lit 256) (.len (.lvar 2)))
(.call 10 [.bool] .nil 9
(.leaf (.consb (.bvar 9) .nil)))
(.br (.lt (.len (.lvar 2)) (.lit 1073741824))
(.loop 0 9 [.int .i64, .int .u64, .int .u64, .int .u64, .int .u64, .int .u64, .int .u64, .int .u64, .int .u64, .int .u64, .int .u64, .int .u64, .int .i64, .int .u8, .int .u8, .int .u8, .int .u8, .int .u8, .int .u8, .int .u8, .int .u8, .int .u8, .int .u8, .int .u8, .int .u8, .int .u8, .int .u8, .int .u8, .int .u8, .int .u8, .int .u8, .int .u8, .int .u8, .int .u8, .int .u8, .int .u8, .int .u8, .int .u8, .int .u8, .int .u8, .int .u8, .int .u8, .int .u8, .int .u8, .int .u8, .int .u8, .int .u8, .int .u8, .int .u8, .int .u8, .int .u8, .int .u8, .int .u8, .int .u8, .int .u8, .int .u8, .int .u8, .int .u8, .int .u8, .int .u8, .int .u8, .int .u8, .int .u8, .int .u8, .int .u8, .int .u8, .int .u8, .int .u8, .int .u8, .int .u8, .int .u8, .int .u8, .int .u8, .int .u8, .int .u8, .int .u8, .int .u8, .int .i64, .int .i64, .int .u64, .int .u64, .int .u64, .int .u64, .int .u64, .int .u64, .int .u64, .int .u64, .int .u64, .int .u64, .int .u64, .int .i64, .int .u8, .int .u8, .int .u8, .int .u8, .int .u8, .int .u8, .int .u8, .int .u8, .int .u8, .int .u8, .int .u8, .int .u8, .int .u8, .int .u8, .int .u8, .int .u8, .int .u8, .int .u8, .int .u8, .int .u8, .int .u8, .int .u8, .int .u8, .int .u8, .int .u8, .int .u8, .int .u8, .int .u8, .int .u8, .int .u8, .int .u8, .int .u8, .int .u8, .int .u8, .int .u8, .int .u8, .int .u8, .int .u8, .int .u8, .int .u8, .int .u8, .int .u8, .int .u8, .int .u8, .int .u8, .int .u8, .int .u8, .int .u8, .int .u8, .int .u8, .int .u8, .int .u8, .int .u8, .int .u8, .int .u8, .int .u8, .int .u8, .int .u8, .int .u8, .int .u8, .int .u8, .int .u8, .int .u8, .int .u8, .int .i64, .list [some .u64], .list [some .i64, some .u64, some .i64, some .u64, some .u64, some .u64, some .u64, some .u64], .list [some .u8], .list [some .u8]] (.cons (.var 4) (.cons (.lit 0) (.cons (.lit 2097152) (.cons (.lit 0) (.cons (.lit 0) (.cons (.lit 0) (.cons (.lit 0) (.cons (.lit 0) (.cons (.lit 0) (.cons (.lit 0) (.cons (.lit 0) (.cons (.lit 3145792) (.cons (.lit 1026) (.cons (.lit 0) (.cons (.lit 0) (.cons (.lit 0) (.cons (.lit 0) (.cons (.lit 0) (.cons (.lit 0) (.cons (.lit 0) (.cons (.lit 0) (.cons (.lit 0) (.cons (.lit 0) (.cons (.lit 0) (.cons (.lit 0) (.cons (.lit 0) (.cons (.lit 0) (.cons (.lit 0) (.cons (.lit 0) (.cons (.lit 0) (.cons (.lit 0) (.cons (.lit 0) (.cons (.lit 0) (.cons (.lit 0) (.cons (.lit 0) (.cons (.lit 0) (.cons (.lit 0) (.cons (.lit 0) (.cons (.lit 0) (.cons (.lit 0) (.cons (.lit 0) (.cons (.lit 0) (.cons (.lit 0) (.cons (.lit 0) (.cons (.lit 0) (.cons (.lit 0) (.cons (.lit 0) (.cons (.lit 0) (.cons (.lit 0) (.cons (.lit 0) (.cons (.lit 0) (.cons (.lit 0) (.cons (.lit 0) (.cons (.lit 0) (.cons (.lit 0) (.cons (.lit 0) (.cons (.lit 0) (.cons (.lit 0) (.cons (.lit 0) (.cons (.lit 0) (.cons (.lit 0) (.cons (.lit 0) (.cons (.lit 0) (.cons (.lit 0) (.cons (.lit 0) (.cons (.lit 0) (.cons (.lit 0) (.cons (.lit 0) (.cons (.lit 0) (.cons (.lit 0) (.cons (.lit 0) (.cons (.lit 0) (.cons (.lit 0) (.cons (.lit 0) (.cons (.lit 0) (.cons (.lit 0) (.cons (.lit 0) (.cons (.lit 0) (.cons (.lit 0) (.cons (.lit 0) (.cons (.lit 0) (.cons (.lit 0) (.cons (.lit 0) (.cons (.lit 0) (.cons (.lit 0) (.cons (.lit 0) (.cons (.lit 0) (.cons (.lit 0) (.cons (.lit 0) (.cons (.lit 0) (.cons (.lit 0) (.cons (.lit 0) (.cons (.lit 0) (.cons (.lit 0) (.cons (.lit 0) (.cons (.lit 0) (.cons (.lit 0) (.cons (.lit 0) (.cons (.lit 0) (.cons (.lit 0) (.cons (.lit 0) (.cons (.lit 0) (.cons (.lit 0) (.cons (.lit 0) (.cons (.lit 0) (.cons (.lit 0) (.cons (.lit 0) (.cons (.lit 0) (.cons (.lit 0) (.cons (.lit 0) (.cons (.lit 0) (.cons (.lit 0) (.cons (.lit 0) (.cons (.lit 0) (.cons (.lit 0) (.cons (.lit 0) (.cons (.lit 0) (.cons (.lit 0) (.cons (.lit 0) (.cons (.lit 0) (.cons (.lit 0) (.cons (.lit 0) (.cons (.lit 0) (.cons (.lit 0) (.cons (.lit 0) (.cons (.lit 0) (.cons (.lit 0) (.cons (.lit 0) (.cons (.lit 0) (.cons (.lit 0) (.cons (.lit 0) (.cons (.lit 0) (.cons (.lit 0) (.cons (.lit 0) (.cons (.lit 0) (.cons (.lit 0) (.cons (.lit 0) (.cons (.lit 0) (.cons (.lit 0) (.cons (.lit 0) (.cons (.lit 0) (.cons (.lit 0) (.cons (.lit 0) (.cons (.lit 0) (.cons (.lit 0) (.cons (.lit 0) (.cons (.lit 0) (.cons (.lit 0) (.cons (.lit 0) (.cons (.lit 0) (.cons (.lit 0) (.cons (.lit 0) (.cons (.lit 0) (.cons (.lit 0) (.cons (.lit 0) (.cons (.lit (-1)) (.consl (.lvar 3) (.consl .lnil (.consl (.lvar 2) (.consl (.lrep (.lit 64) (.cons (.lit 0) .nil)) .nil))))))))))))))))))))))))))))))))))))))))))))))))))))))))))))))))))))))))))))))))))))))))))))))))))))))))))))))))))))))))))))))))))))))))))))))))))))))))))))))))
(.br (.lt (.lit 0) (.var 9))
(.br (.lt (.var 86) (.lit 0))
(.leaf (.consb (.tt false) .nil))
(.br (.lt (.var 86) (.len (.lvar 1)))
(.cut 1 169 []
(.br (.lt (.var 164) (.lit 0))
(.next 1 .nil)
(.br (.lt (.var 164) (.len (.lvar 1)))
(.cut 2 169 [.int .i64]
(.br (.eq (.get (.lvar 1) (.var 164) 0) (.lit 0))
(.br (.lt (.get (.lvar 1) (.var 164) 5) (.lit 0))
.panic
(.next 2 (.cons (.bin .shl .i64 (.lit 1) (.get (.lvar 1) (.var 164) 5)) .nil)))
(.br (.eq (.get (.lvar 1) (.var 164) 0) (.lit 1))
(.br (.lt (.get (.lvar 1) (.var 164) 5) (.lit 0))
.panic
(.next 2 (.cons (.bin .shl .i64 (.lit 1) (.get (.lvar 1) (.var 164) 5)) .nil)))
(.br (.eq (.get (.lvar 1) (.var 164) 0) (.lit 5))
(.next 2 (.cons (.lit 63) .nil))
(.next 2 (.cons (.lit 0) .nil)))))
(.loop 3 170 [.int .i64] (.cons (.lit 0) .nil)
(.br (.lt (.var 170) (.lit 11))
(.br (.lt (.var 170) (.lit 0))
.panic
(.br (.eq (.bin .and .i64 (.bin .shr .i64 (.var 169) (.var 170)) (.lit 1)) (.lit 0))
(.br (.eq (.nth (.var 170) (.vs 10 11 .nil)) (.nth (.var 170) (.vs 88 11 .nil)))
(.br (.eq (.bin .and .i64 (.bin .shr .i64 (.var 21) (.var 170)) (.lit 1)) (.bin .and .i64 (.bin .shr .i64 (.var 99) (.var 170)) (.lit 1)))
(.next 3 (.cons (.bin .add .i64 (.var 170) (.lit 1)) .nil))
(.leaf (.consb (.tt false) .nil)))
(.leaf (.consb (.tt false) .nil)))
(.next 3 (.cons (.bin .add .i64 (.var 170) (.lit 1)) .nil))))
(.br (.eq (.get (.lvar 1) (.var 164) 0) (.lit 2))
(.next 1 .nil)
(.br (.beq (.and (.eq (.var 22) (.var 100)) (.and (.eq (.var 23) (.var 101)) (.and (.eq (.var 24) (.var 102)) (.and (.eq (.var 25) (.var 103)) (.and (.eq (.var 26) (.var 104)) (.and (.eq (.var 27) (.var 105)) (.and (.eq (.var 28) (.var 106)) (.and (.eq (.var 29) (.var 107)) (.and (.eq (.var 30) (.var 108)) (.and (.eq (.var 31) (.var 109)) (.and (.eq (.var 32) (.var 110)) (.and (.eq (.var 33) (.var 111)) (.and (.eq (.var 34) (.var 112)) (.and (.eq (.var 35) (.var 113)) (.and (.eq (.var 36) (.var 114)) (.and (.eq (.var 37) (.var 115)) (.and (.eq (.var 38) (.var 116)) (.and (.eq (.var 39) (.var 117)) (.and (.eq (.var 40) (.var 118)) (.and (.eq (.var 41) (.var 119)) (.and (.eq (.var 42) (.var 120)) (.and (.eq (.var 43) (.var 121)) (.and (.eq (.var 44) (.var 122)) (.and (.eq (.var 45) (.var 123)) (.and (.eq (.var 46) (.var 124)) (.and (.eq (.var 47) (.var 125)) (.and (.eq (.var 48) (.var 126)) (.and (.eq (.var 49) (.var 127)) (.and (.eq (.var 50) (.var 128)) (.and (.eq (.var 51) (.var 129)) (.and (.eq (.var 52) (.var 130)) (.and (.eq (.var 53) (.var 131)) (.and (.eq (.var 54) (.var 132)) (.and (.eq (.var 55) (.var 133)) (.and (.eq (.var 56) (.var 134)) (.and (.eq (.var 57) (.var 135)) (.and (.eq (.var 58) (.var 136)) (.and (.eq (.var 59) (.var 137)) (.and (.eq (.var 60) (.var 138)) (.and (.eq (.var 61) (.var 139)) (.and (.eq (.var 62) (.var 140)) (.and (.eq (.var 63) (.var 141)) (.and (.eq (.var 64) (.var 142)) (.and (.eq (.var 65) (.var 143)) (.and (.eq (.var 66) (.var 144)) (.and (.eq (.var 67) (.var 145)) (.and (.eq (.var 68) (.var 146)) (.and (.eq (.var 69) (.var 147)) (.and (.eq (.var 70) (.var 148)) (.and (.eq (.var 71) (.var 149)) (.and (.eq (.var 72) (.var 150)) (.and (.eq (.var 73) (.var 151)) (.and (.eq (.var 74) (.var 152)) (.and (.eq (.var 75) (.var 153)) (.and (.eq (.var 76) (.var 154)) (.and (.eq (.var 77) (.var 155)) (.and (.eq (.var 78) (.var 156)) (.and (.eq (.var 79) (.var 157)) (.and (.eq (.var 80) (.var 158)) (.and (.eq (.var 81) (.var 159)) (.and (.eq (.var 82) (.var 160)) (.and (.eq (.var 83) (.var 161)) (.and (.eq (.var 84) (.var 162)) (.and (.eq (.var 85) (.var 163)) (.tt true))))))))))))))))))))))))))))))))))))))))))))))))))))))))))))))))) (.tt true))
(.next 1 .nil)
(.leaf (.consb (.tt false) .nil)))))))
.panic))
(.call 9 [.int .i64] (.cons (.get (.lvar 1) (.var 86) 0) (.cons (.get (.lvar 1) (.var 86) 1) (.cons (.get (.lvar 1) (.var 86) 2) (.cons (.get (.lvar 1) (.var 86) 3) (.consb (.getb (.lvar 1) (.var 86) 4) (.cons (.get (.lvar 1) (.var 86) 5) (.cons (.get (.lvar 1) (.var 86) 6) (.cons (.get (.lvar 1) (.var 86) 7) (.cons (.get (.lvar 1) (.var 86) 8) .nil))))))))) 169
(.br (.eq (.bin .andNot .i64 (.var 169) (.var 21)) (.lit 0))
(.br (.eq (.get (.lvar 1) (.var 86) 0) (.lit 0))
(.br (.lt (.get (.lvar 1) (.var 86) 5) (.lit 0))
.panic
(.br (.lt (.get (.lvar 1) (.var 86) 5) (.lit 11))
(.call 1 [.int .u64] (.vs 10 11 (.cons (.get (.lvar 1) (.var 86) 0) (.cons (.get (.lvar 1) (.var 86) 1) (.cons (.get (.lvar 1) (.var 86) 2) (.cons (.get (.lvar 1) (.var 86) 3) (.consb (.getb (.lvar 1) (.var 86) 4) (.cons (.get (.lvar 1) (.var 86) 5) (.cons (.get (.lvar 1) (.var 86) 6) (.cons (.get (.lvar 1) (.var 86) 7) (.cons (.get (.lvar 1) (.var 86) 8) .nil)))))))))) 170
(.call 6 [.int .u64, .int .i64] (.cons (.get (.lvar 1) (.var 86) 1) (.cons (.get (.lvar 1) (.var 86) 2) (.cons (.nth (.get (.lvar 1) (.var 86) 5) (.vs 10 11 .nil)) (.cons (.var 170) .nil)))) 171
(.next 0 (.cons (.bin .sub .i64 (.var 9) (.lit 1)) (.cons (.ite (.eq (.get (.lvar 1) (.var 86) 5) (.lit 0)) (.var 171) (.var 10)) (.cons (.ite (.eq (.get (.lvar 1) (.var 86) 5) (.lit 1)) (.var 171) (.var 11)) (.cons (.ite (.eq (.get (.lvar 1) (.var 86) 5) (.lit 2)) (.var 171) (.var 12)) (.cons (.ite (.eq (.get (.lvar 1) (.var 86) 5) (.lit 3)) (.var 171) (.var 13)) (.cons (.ite (.eq (.get (.lvar 1) (.var 86) 5) (.lit 4)) (.var 171) (.var 14)) (.cons (.ite (.eq (.get (.lvar 1) (.var 86) 5) (.lit 5)) (.var 171) (.var 15)) (.cons (.ite (.eq (.get (.lvar 1) (.var 86) 5) (.lit 6)) (.var 171) (.var 16)) (.cons (.ite (.eq (.get (.lvar 1) (.var 86) 5) (.lit 7)) (.var 171) (.var 17)) (.cons (.ite (.eq (.get (.lvar 1) (.var 86) 5) (.lit 8)) (.var 171) (.var 18)) (.cons (.ite (.eq (.get (.lvar 1) (.var 86) 5) (.lit 9)) (.var 171) (.var 19)) (.cons (.ite (.eq (.get (.lvar 1) (.var 86) 5) (.lit 10)) (.var 171) (.var 20)) (.cons (.bin .or .i64 (.var 21) (.bin .shl .i64 (.lit 1) (.get (.lvar 1) (.var 86) 5))) (.vs 22 64 (.cons (.bin .add .i64 (.var 86) (.lit 1)) (.cons (.bin .add .i64 (.var 86) (.lit 1)) (.vs 10 77 (.consl (.lvar 165) (.consl (.lvar 166) (.consl (.lvar 167) (.consl (.lvar 168) .nil))))))))))))))))))))))))
.panic))
(.br (.eq (.get (.lvar 1) (.var 86) 0) (.lit 1))
(.br (.lt (.get (.lvar 1) (.var 86) 6) (.lit 0))
.panic
(.br (.lt (.get (.lvar 1) (.var 86) 6) (.lit 11))
(.call 0 [.int .u64] (.cons (.get (.lvar 1) (.var 86) 7) .nil) 170
(.call 8 [.int .u64, .int .i64] (.cons (.lit 1048576) (.consl (.lrep (.lit 0) (.cons (.lit 0) .nil)) (.consb (.tt false) (.cons (.lit 2097152) (.consl (.lvar 167) (.consb (.tt true) (.cons (.lit 3145728) (.consl (.lvar 168) (.consb (.tt true) (.cons (.lit 4194304) (.consl .lnil (.consb (.tt true) (.cons (.bin .add .u64 (.nth (.get (.lvar 1) (.var 86) 6) (.vs 10 11 .nil)) (.var 170)) (.cons (.conv .i64 (.get (.lvar 1) (.var 86) 3)) .nil)))))))))))))) 171
(.br (.eq (.var 172) (.lit 0))
(.br (.lt (.get (.lvar 1) (.var 86) 5) (.lit 0))
.panic
(.br (.lt (.get (.lvar 1) (.var 86) 5) (.lit 11))
(.next 0 (.cons (.bin .sub .i64 (.var 9) (.lit 1)) (.cons (.ite (.eq (.get (.lvar 1) (.var 86) 5) (.lit 0)) (.var 171) (.var 10)) (.cons (.ite (.eq (.get (.lvar 1) (.var 86) 5) (.lit 1)) (.var 171) (.var 11)) (.cons (.ite (.eq (.get (.lvar 1) (.var 86) 5) (.lit 2)) (.var 171) (.var 12)) (.cons (.ite (.eq (.get (.lvar 1) (.var 86) 5) (.lit 3)) (.var 171) (.var 13)) (.cons (.ite (.eq (.get (.lvar 1) (.var 86) 5) (.lit 4)) (.var 171) (.var 14)) (.cons (.ite (.eq (.get (.lvar 1) (.var 86) 5) (.lit 5)) (.var 171) (.var 15)) (.cons (.ite (.eq (.get (.lvar 1) (.var 86) 5) (.lit 6)) (.var 171) (.var 16)) (.cons (.ite (.eq (.get (.lvar 1) (.var 86) 5) (.lit 7)) (.var 171) (.var 17)) (.cons (.ite (.eq (.get (.lvar 1) (.var 86) 5) (.lit 8)) (.var 171) (.var 18)) (.cons (.ite (.eq (.get (.lvar 1) (.var 86) 5) (.lit 9)) (.var 171) (.var 19)) (.cons (.ite (.eq (.get (.lvar 1) (.var 86) 5) (.lit 10)) (.var 171) (.var 20)) (.cons (.bin .or .i64 (.var 21) (.bin .shl .i64 (.lit 1) (.get (.lvar 1) (.var 86) 5))) (.vs 22 64 (.cons (.bin .add .i64 (.var 86) (.lit 1)) (.cons (.bin .add .i64 (.var 86) (.lit 1)) (.vs 10 77 (.consl (.lvar 165) (.consl (.lvar 166) (.consl (.lvar 167) (.consl (.lvar 168) .nil))))))))))))))))))))))
.panic))
(.call 10 [.bool] .nil 173
(.leaf (.consb (.bvar 173) .nil))))))
.panic))
(.br (.eq (.get (.lvar 1) (.var 86) 0) (.lit 2))
(.br (.lt (.get (.lvar 1) (.var 86) 5) (.lit 0))
.panic
(.br (.lt (.get (.lvar 1) (.var 86) 5) (.lit 11))
(.call 0 [.int .u64] (.cons (.get (.lvar 1) (.var 86) 7) .nil) 170
(.br (.lt (.get (.lvar 1) (.var 86) 6) (.lit 0))
.panic
(.br (.lt (.get (.lvar 1) (.var 86) 6) (.lit 11))
(.cut 2 171 []
(.br (.eq (.conv .i64 (.get (.lvar 1) (.var 86) 3)) (.lit 1))
(.next 2 .nil)
(.br (.eq (.conv .i64 (.get (.lvar 1) (.var 86) 3)) (.lit 2))
(.next 2 .nil)
(.br (.eq (.conv .i64 (.get (.lvar 1) (.var 86) 3)) (.lit 4))
(.next 2 .nil)
(.br (.eq (.conv .i64 (.get (.lvar 1) (.var 86) 3)) (.lit 8))
(.next 2 .nil)
(.loop 3 171 [.int .i64, .list [some .u8], .list [some .u8]] (.cons (.lit 0) (.consl (.lvar 167) (.consl (.lvar 168) .nil)))
(.br (.lt (.var 171) (.lit 0))
(.br (.lt (.bin .mul .i64 (.lit 8) (.var 171)) (.lit 0))
.panic
.panic)
(.br (.lt (.len (.lvar 173)) (.lit 1073741824))
(.br (.eq (.len (.lvar 173)) (.lit 64))
(.call 10 [.bool] .nil 174
(.leaf (.consb (.bvar 174) .nil)))
(.stuck 225))
.panic)))))))
(.cut 3 171 []
(.cut 4 171 [.bool]
(.br (.lt (.bin .add .u64 (.nth (.get (.lvar 1) (.var 86) 5) (.vs 10 11 .nil)) (.var 170)) (.lit 1048576))
(.next 4 (.consb (.tt true) .nil))
(.br (.lt (.lit 0) (.bin .sub .u64 (.bin .add .u64 (.nth (.get (.lvar 1) (.var 86) 5) (.vs 10 11 .nil)) (.var 170)) (.lit 1048576)))
(.next 4 (.consb (.tt true) .nil))
(.next 4 (.consb (.lt (.bin .sub .u64 (.lit 0) (.bin .sub .u64 (.bin .add .u64 (.nth (.get (.lvar 1) (.var 86) 5) (.vs 10 11 .nil)) (.var 170)) (.lit 1048576))) (.conv .u64 (.conv .i64 (.get (.lvar 1) (.var 86) 3)))) .nil))))
(.br (.bvar 171)
(.next 3 .nil)
(.br (.lt (.bin .sub .u64 (.bin .add .u64 (.nth (.get (.lvar 1) (.var 86) 5) (.vs 10 11 .nil)) (.var 170)) (.lit 1048576)) (.lit 0))
.panic
(.br (.lt (.bin .add .i64 (.conv .i64 (.bin .sub .u64 (.bin .add .u64 (.nth (.get (.lvar 1) (.var 86) 5) (.vs 10 11 .nil)) (.var 170)) (.lit 1048576))) (.conv .i64 (.get (.lvar 1) (.var 86) 3))) (.bin .sub .u64 (.bin .add .u64 (.nth (.get (.lvar 1) (.var 86) 5) (.vs 10 11 .nil)) (.var 170)) (.lit 1048576)))
.panic
(.br (.lt (.lit 0) (.bin .add .i64 (.conv .i64 (.bin .sub .u64 (.bin .add .u64 (.nth (.get (.lvar 1) (.var 86) 5) (.vs 10 11 .nil)) (.var 170)) (.lit 1048576))) (.conv .i64 (.get (.lvar 1) (.var 86) 3))))
.panic
(.next 3 .nil))))))
(.cut 4 171 []
(.cut 5 171 [.bool]
(.br (.lt (.bin .add .u64 (.nth (.get (.lvar 1) (.var 86) 5) (.vs 10 11 .nil)) (.var 170)) (.lit 2097152))
(.next 5 (.consb (.tt true) .nil))
(.br (.lt (.conv .u64 (.len (.lvar 167))) (.bin .sub .u64 (.bin .add .u64 (.nth (.get (.lvar 1) (.var 86) 5) (.vs 10 11 .nil)) (.var 170)) (.lit 2097152)))
(.next 5 (.consb (.tt true) .nil))
(.next 5 (.consb (.lt (.bin .sub .u64 (.conv .u64 (.len (.lvar 167))) (.bin .sub .u64 (.bin .add .u64 (.nth (.get (.lvar 1) (.var 86) 5) (.vs 10 11 .nil)) (.var 170)) (.lit 2097152))) (.conv .u64 (.conv .i64 (.get (.lvar 1) (.var 86) 3)))) .nil))))
(.br (.bvar 171)
(.next 4 .nil)
(.br (.lt (.bin .sub .u64 (.bin .add .u64 (.nth (.get (.lvar 1) (.var 86) 5) (.vs 10 11 .nil)) (.var 170)) (.lit 2097152)) (.lit 0))
.panic
(.br (.lt (.bin .add .i64 (.conv .i64 (.bin .sub .u64 (.bin .add .u64 (.nth (.get (.lvar 1) (.var 86) 5) (.vs 10 11 .nil)) (.var 170)) (.lit 2097152))) (.conv .i64 (.get (.lvar 1) (.var 86) 3))) (.bin .sub .u64 (.bin .add .u64 (.nth (.get (.lvar 1) (.var 86) 5) (.vs 10 11 .nil)) (.var 170)) (.lit 2097152)))
.panic
(.br (.lt (.len (.lvar 167)) (.bin .add .i64 (.conv .i64 (.bin .sub .u64 (.bin .add .u64 (.nth (.get (.lvar 1) (.var 86) 5) (.vs 10 11 .nil)) (.var 170)) (.lit 2097152))) (.conv .i64 (.get (.lvar 1) (.var 86) 3))))
.panic
(.loop 6 172 [.int .i64, .list [some .u8], .list [some .u8]] (.cons (.lit 0) (.consl (.lvar 167) (.consl (.lvar 168) .nil)))
(.br (.lt (.var 172) (.len (.ldrop (.ltake (.lvar 167) (.bin .add .i64 (.conv .i64 (.bin .sub .u64 (.bin .add .u64 (.nth (.get (.lvar 1) (.var 86) 5) (.vs 10 11 .nil)) (.var 170)) (.lit 2097152))) (.conv .i64 (.get (.lvar 1) (.var 86) 3)))) (.bin .sub .u64 (.bin .add .u64 (.nth (.get (.lvar 1) (.var 86) 5) (.vs 10 11 .nil)) (.var 170)) (.lit 2097152)))))
(.br (.lt (.bin .mul .i64 (.lit 8) (.var 172)) (.lit 0))
.panic
(.br (.lt (.len (.lvar 173)) (.bin .add .i64 (.conv .i64 (.bin .sub .u64 (.bin .add .u64 (.nth (.get (.lvar 1) (.var 86) 5) (.vs 10 11 .nil)) (.var 170)) (.lit 2097152))) (.conv .i64 (.get (.lvar 1) (.var 86) 3))))
(.stuck 185)
(.br (.lt (.var 172) (.lit 0))
.panic
(.br (.lt (.var 172) (.len (.ldrop (.ltake (.lvar 173) (.bin .add .i64 (.conv .i64 (.bin .sub .u64 (.bin .add .u64 (.nth (.get (.lvar 1) (.var 86) 5) (.vs 10 11 .nil)) (.var 170)) (.lit 2097152))) (.conv .i64 (.get (.lvar 1) (.var 86) 3)))) (.bin .sub .u64 (.bin .add .u64 (.nth (.get (.lvar 1) (.var 86) 5) (.vs 10 11 .nil)) (.var 170)) (.lit 2097152)))))
(.br (.lt (.bin .add .i64 (.bin .sub .u64 (.bin .add .u64 (.nth (.get (.lvar 1) (.var 86) 5) (.vs 10 11 .nil)) (.var 170)) (.lit 2097152)) (.var 172)) (.lit 0))
(.stuck 58)
(.br (.lt (.bin .add .i64 (.bin .sub .u64 (.bin .add .u64 (.nth (.get (.lvar 1) (.var 86) 5) (.vs 10 11 .nil)) (.var 170)) (.lit 2097152)) (.var 172)) (.len (.lvar 173)))
(.next 6 (.cons (.bin .add .i64 (.var 172) (.lit 1)) (.consl (.lset (.lvar 173) (.bin .add .i64 (.bin .sub .u64 (.bin .add .u64 (.nth (.get (.lvar 1) (.var 86) 5) (.vs 10 11 .nil)) (.var 170)) (.lit 2097152)) (.var 172)) 0 (.conv .u8 (.bin .shr .u64 (.nth (.get (.lvar 1) (.var 86) 6) (.vs 10 11 .nil)) (.bin .mul .i64 (.lit 8) (.var 172))))) (.consl (.lvar 174) .nil))))
(.stuck 58)))
.panic))))
(.br (.lt (.len (.lvar 174)) (.lit 1073741824))
(.br (.eq (.len (.lvar 174)) (.lit 64))
(.next 0 (.cons (.bin .sub .i64 (.var 9) (.lit 1)) (.vs 10 12 (.cons (.get (.lvar 174) (.lit 0) 0) (.cons (.get (.lvar 174) (.lit 1) 0) (.cons (.get (.lvar 174) (.lit 2) 0) (.cons (.get (.lvar 174) (.lit 3) 0) (.cons (.get (.lvar 174) (.lit 4) 0) (.cons (.get (.lvar 174) (.lit 5) 0) (.cons (.get (.lvar 174) (.lit 6) 0) (.cons (.get (.lvar 174) (.lit 7) 0) (.cons (.get (.lvar 174) (.lit 8) 0) (.cons (.get (.lvar 174) (.lit 9) 0) (.cons (.get (.lvar 174) (.lit 10) 0) (.cons (.get (.lvar 174) (.lit 11) 0) (.cons (.get (.lvar 174) (.lit 12) 0) (.cons (.get (.lvar 174) (.lit 13) 0) (.cons (.get (.lvar 174) (.lit 14) 0) (.cons (.get (.lvar 174) (.lit 15) 0) (.cons (.get (.lvar 174) (.lit 16) 0) (.cons (.get (.lvar 174) (.lit 17) 0) (.cons (.get (.lvar 174) (.lit 18) 0) (.cons (.get (.lvar 174) (.lit 19) 0) (.cons (.get (.lvar 174) (.lit 20) 0) (.cons (.get (.lvar 174) (.lit 21) 0) (.cons (.get (.lvar 174) (.lit 22) 0) (.cons (.get (.lvar 174) (.lit 23) 0) (.cons (.get (.lvar 174) (.lit 24) 0) (.cons (.get (.lvar 174) (.lit 25) 0) (.cons (.get (.lvar 174) (.lit 26) 0) (.cons (.get (.lvar 174) (.lit 27) 0) (.cons (.get (.lvar 174) (.lit 28) 0) (.cons (.get (.lvar 174) (.lit 29) 0) (.cons (.get (.lvar 174) (.lit 30) 0) (.cons (.get (.lvar 174) (.lit 31) 0) (.cons (.get (.lvar 174) (.lit 32) 0) (.cons (.get (.lvar 174) (.lit 33) 0) (.cons (.get (.lvar 174) (.lit 34) 0) (.cons (.get (.lvar 174) (.lit 35) 0) (.cons (.get (.lvar 174) (.lit 36) 0) (.cons (.get (.lvar 174) (.lit 37) 0) (.cons (.get (.lvar 174) (.lit 38) 0) (.cons (.get (.lvar 174) (.lit 39) 0) (.cons (.get (.lvar 174) (.lit 40) 0) (.cons (.get (.lvar 174) (.lit 41) 0) (.cons (.get (.lvar 174) (.lit 42) 0) (.cons (.get (.lvar 174) (.lit 43) 0) (.cons (.get (.lvar 174) (.lit 44) 0) (.cons (.get (.lvar 174) (.lit 45) 0) (.cons (.get (.lvar 174) (.lit 46) 0) (.cons (.get (.lvar 174) (.lit 47) 0) (.cons (.get (.lvar 174) (.lit 48) 0) (.cons (.get (.lvar 174) (.lit 49) 0) (.cons (.get (.lvar 174) (.lit 50) 0) (.cons (.get (.lvar 174) (.lit 51) 0) (.cons (.get (.lvar 174) (.lit 52) 0) (.cons (.get (.lvar 174) (.lit 53) 0) (.cons (.get (.lvar 174) (.lit 54) 0) (.cons (.get (.lvar 174) (.lit 55) 0) (.cons (.get (.lvar 174) (.lit 56) 0) (.cons (.get (.lvar 174) (.lit 57) 0) (.cons (.get (.lvar 174) (.lit 58) 0) (.cons (.get (.lvar 174) (.lit 59) 0) (.cons (.get (.lvar 174) (.lit 60) 0) (.cons (.get (.lvar 174) (.lit 61) 0) (.cons (.get (.lvar 174) (.lit 62) 0) (.cons (.get (.lvar 174) (.lit 63) 0) (.cons (.bin .add .i64 (.var 86) (.lit 1)) (.cons (.bin .add .i64 (.var 86) (.lit 1)) (.vs 10 77 (.consl (.lvar 165) (.consl (.lvar 166) (.consl (.lvar 173) (.consl (.lvar 174) .nil))))))))))))))))))))))))))))))))))))))))))))))))))))))))))))))))))))))))))
(.stuck 225))
.panic))))))))
(.cut 5 171 []
(.cut 6 171 [.bool]
(.br (.lt (.bin .add .u64 (.nth (.get (.lvar 1) (.var 86) 5) (.vs 10 11 .nil)) (.var 170)) (.lit 3145728))
(.next 6 (.consb (.tt true) .nil))
(.br (.lt (.conv .u64 (.len (.lvar 168))) (.bin .sub .u64 (.bin .add .u64 (.nth (.get (.lvar 1) (.var 86) 5) (.vs 10 11 .nil)) (.var 170)) (.lit 3145728)))
(.next 6 (.consb (.tt true) .nil))
(.next 6 (.consb (.lt (.bin .sub .u64 (.conv .u64 (.len (.lvar 168))) (.bin .sub .u64 (.bin .add .u64 (.nth (.get (.lvar 1) (.var 86) 5) (.vs 10 11 .nil)) (.var 170)) (.lit 3145728))) (.conv .u64 (.conv .i64 (.get (.lvar 1) (.var 86) 3)))) .nil))))
(.br (.bvar 171)
(.next 5 .nil)
(.br (.lt (.bin .sub .u64 (.bin .add .u64 (.nth (.get (.lvar 1) (.var 86) 5) (.vs 10 11 .nil)) (.var 170)) (.lit 3145728)) (.lit 0))
.panic
(.br (.lt (.bin .add .i64 (.conv .i64 (.bin .sub .u64 (.bin .add .u64 (.nth (.get (.lvar 1) (.var 86) 5) (.vs 10 11 .nil)) (.var 170)) (.lit 3145728))) (.conv .i64 (.get (.lvar 1) (.var 86) 3))) (.bin .sub .u64 (.bin .add .u64 (.nth (.get (.lvar 1) (.var 86) 5) (.vs 10 11 .nil)) (.var 170)) (.lit 3145728)))
.panic
(.br (.lt (.len (.lvar 168)) (.bin .add .i64 (.conv .i64 (.bin .sub .u64 (.bin .add .u64 (.nth (.get (.lvar 1) (.var 86) 5) (.vs 10 11 .nil)) (.var 170)) (.lit 3145728))) (.conv .i64 (.get (.lvar 1) (.var 86) 3))))
.panic
(.loop 7 172 [.int .i64, .list [some .u8], .list [some .u8]] (.cons (.lit 0) (.consl (.lvar 167) (.consl (.lvar 168) .nil)))
(.br (.lt (.var 172) (.len (.ldrop (.ltake (.lvar 168) (.bin .add .i64 (.conv .i64 (.bin .sub .u64 (.bin .add .u64 (.nth (.get (.lvar 1) (.var 86) 5) (.vs 10 11 .nil)) (.var 170)) (.lit 3145728))) (.conv .i64 (.get (.lvar 1) (.var 86) 3)))) (.bin .sub .u64 (.bin .add .u64 (.nth (.get (.lvar 1) (.var 86) 5) (.vs 10 11 .nil)) (.var 170)) (.lit 3145728)))))
(.br (.lt (.bin .mul .i64 (.lit 8) (.var 172)) (.lit 0))
.panic
(.br (.lt (.len (.lvar 174)) (.bin .add .i64 (.conv .i64 (.bin .sub .u64 (.bin .add .u64 (.nth (.get (.lvar 1) (.var 86) 5) (.vs 10 11 .nil)) (.var 170)) (.lit 3145728))) (.conv .i64 (.get (.lvar 1) (.var 86) 3))))
(.stuck 185)
(.br (.lt (.var 172) (.lit 0))
.panic
(.br (.lt (.var 172) (.len (.ldrop (.ltake (.lvar 174) (.bin .add .i64 (.conv .i64 (.bin .sub .u64 (.bin .add .u64 (.nth (.get (.lvar 1) (.var 86) 5) (.vs 10 11 .nil)) (.var 170)) (.lit 3145728))) (.conv .i64 (.get (.lvar 1) (.var 86) 3)))) (.bin .sub .u64 (.bin .add .u64 (.nth (.get (.lvar 1) (.var 86) 5) (.vs 10 11 .nil)) (.var 170)) (.lit 3145728)))))
(.br (.lt (.bin .add .i64 (.bin .sub .u64 (.bin .add .u64 (.nth (.get (.lvar 1) (.var 86) 5) (.vs 10 11 .nil)) (.var 170)) (.lit 3145728)) (.var 172)) (.lit 0))
(.stuck 58)
(.br (.lt (.bin .add .i64 (.bin .sub .u64 (.bin .add .u64 (.nth (.get (.lvar 1) (.var 86) 5) (.vs 10 11 .nil)) (.var 170)) (.lit 3145728)) (.var 172)) (.len (.lvar 174)))
(.next 7 (.cons (.bin .add .i64 (.var 172) (.lit 1)) (.consl (.lvar 173) (.consl (.lset (.lvar 174) (.bin .add .i64 (.bin .sub .u64 (.bin .add .u64 (.nth (.get (.lvar 1) (.var 86) 5) (.vs 10 11 .nil)) (.var 170)) (.lit 3145728)) (.var 172)) 0 (.conv .u8 (.bin .shr .u64 (.nth (.get (.lvar 1) (.var 86) 6) (.vs 10 11 .nil)) (.bin .mul .i64 (.lit 8) (.var 172))))) .nil))))
(.stuck 58)))
.panic))))
(.br (.lt (.len (.lvar 174)) (.lit 1073741824))
(.br (.eq (.len (.lvar 174)) (.lit 64))
(.next 0 (.cons (.bin .sub .i64 (.var 9) (.lit 1)) (.vs 10 12 (.cons (.get (.lvar 174) (.lit 0) 0) (.cons (.get (.lvar 174) (.lit 1) 0) (.cons (.get (.lvar 174) (.lit 2) 0) (.cons (.get (.lvar 174) (.lit 3) 0) (.cons (.get (.lvar 174) (.lit 4) 0) (.cons (.get (.lvar 174) (.lit 5) 0) (.cons (.get (.lvar 174) (.lit 6) 0) (.cons (.get (.lvar 174) (.lit 7) 0) (.cons (.get (.lvar 174) (.lit 8) 0) (.cons (.get (.lvar 174) (.lit 9) 0) (.cons (.get (.lvar 174) (.lit 10) 0) (.cons (.get (.lvar 174) (.lit 11) 0) (.cons (.get (.lvar 174) (.lit 12) 0) (.cons (.get (.lvar 174) (.lit 13) 0) (.cons (.get (.lvar 174) (.lit 14) 0) (.cons (.get (.lvar 174) (.lit 15) 0) (.cons (.get (.lvar 174) (.lit 16) 0) (.cons (.get (.lvar 174) (.lit 17) 0) (.cons (.get (.lvar 174) (.lit 18) 0) (.cons (.get (.lvar 174) (.lit 19) 0) (.cons (.get (.lvar 174) (.lit 20) 0) (.cons (.get (.lvar 174) (.lit 21) 0) (.cons (.get (.lvar 174) (.lit 22) 0) (.cons (.get (.lvar 174) (.lit 23) 0) (.cons (.get (.lvar 174) (.lit 24) 0) (.cons (.get (.lvar 174) (.lit 25) 0) (.cons (.get (.lvar 174) (.lit 26) 0) (.cons (.get (.lvar 174) (.lit 27) 0) (.cons (.get (.lvar 174) (.lit 28) 0) (.cons (.get (.lvar 174) (.lit 29) 0) (.cons (.get (.lvar 174) (.lit 30) 0) (.cons (.get (.lvar 174) (.lit 31) 0) (.cons (.get (.lvar 174) (.lit 32) 0) (.cons (.get (.lvar 174) (.lit 33) 0) (.cons (.get (.lvar 174) (.lit 34) 0) (.cons (.get (.lvar 174) (.lit 35) 0) (.cons (.get (.lvar 174) (.lit 36) 0) (.cons (.get (.lvar 174) (.lit 37) 0) (.cons (.get (.lvar 174) (.lit 38) 0) (.cons (.get (.lvar 174) (.lit 39) 0) (.cons (.get (.lvar 174) (.lit 40) 0) (.cons (.get (.lvar 174) (.lit 41) 0) (.cons (.get (.lvar 174) (.lit 42) 0) (.cons (.get (.lvar 174) (.lit 43) 0) (.cons (.get (.lvar 174) (.lit 44) 0) (.cons (.get (.lvar 174) (.lit 45) 0) (.cons (.get (.lvar 174) (.lit 46) 0) (.cons (.get (.lvar 174) (.lit 47) 0) (.cons (.get (.lvar 174) (.lit 48) 0) (.cons (.get (.lvar 174) (.lit 49) 0) (.cons (.get (.lvar 174) (.lit 50) 0) (.cons (.get (.lvar 174) (.lit 51) 0) (.cons (.get (.lvar 174) (.lit 52) 0) (.cons (.get (.lvar 174) (.lit 53) 0) (.cons (.get (.lvar 174) (.lit 54) 0) (.cons (.get (.lvar 174) (.lit 55) 0) (.cons (.get (.lvar 174) (.lit 56) 0) (.cons (.get (.lvar 174) (.lit 57) 0) (.cons (.get (.lvar 174) (.lit 58) 0) (.cons (.get (.lvar 174) (.lit 59) 0) (.cons (.get (.lvar 174) (.lit 60) 0) (.cons (.get (.lvar 174) (.lit 61) 0) (.cons (.get (.lvar 174) (.lit 62) 0) (.cons (.get (.lvar 174) (.lit 63) 0) (.cons (.bin .add .i64 (.var 86) (.lit 1)) (.cons (.bin .add .i64 (.var 86) (.lit 1)) (.vs 10 77 (.consl (.lvar 165) (.consl (.lvar 166) (.consl (.lvar 173) (.consl (.lvar 174) .nil))))))))))))))))))))))))))))))))))))))))))))))))))))))))))))))))))))))))))
(.stuck 225))
.panic))))))))
(.cut 6 171 []
(.cut 7 171 [.bool]
(.br (.lt (.bin .add .u64 (.nth (.get (.lvar 1) (.var 86) 5) (.vs 10 11 .nil)) (.var 170)) (.lit 4194304))
(.next 7 (.consb (.tt true) .nil))
(.br (.lt (.lit 0) (.bin .sub .u64 (.bin .add .u64 (.nth (.get (.lvar 1) (.var 86) 5) (.vs 10 11 .nil)) (.var 170)) (.lit 4194304)))
(.next 7 (.consb (.tt true) .nil))
(.next 7 (.consb (.lt (.bin .sub .u64 (.lit 0) (.bin .sub .u64 (.bin .add .u64 (.nth (.get (.lvar 1) (.var 86) 5) (.vs 10 11 .nil)) (.var 170)) (.lit 4194304))) (.conv .u64 (.conv .i64 (.get (.lvar 1) (.var 86) 3)))) .nil))))
(.br (.bvar 171)
(.next 6 .nil)
(.stuck 50)))
(.loop 7 171 [.int .i64, .list [some .u8], .list [some .u8]] (.cons (.lit 0) (.consl (.lvar 167) (.consl (.lvar 168) .nil)))
(.br (.lt (.var 171) (.lit 0))
(.br (.lt (.bin .mul .i64 (.lit 8) (.var 171)) (.lit 0))
.panic
.panic)
(.br (.lt (.len (.lvar 173)) (.lit 1073741824))
(.br (.eq (.len (.lvar 173)) (.lit 64))
(.call 10 [.bool] .nil 174
(.leaf (.consb (.bvar 174) .nil)))
(.stuck 225))
.panic))))))))
.panic)))
.panic))
(.br (.eq (.get (.lvar 1) (.var 86) 0) (.lit 3))
(.br (.lt (.get (.lvar 1) (.var 86) 5) (.lit 0))
.panic
(.br (.lt (.get (.lvar 1) (.var 86) 5) (.lit 11))
(.call 1 [.int .u64] (.vs 10 11 (.cons (.get (.lvar 1) (.var 86) 0) (.cons (.get (.lvar 1) (.var 86) 1) (.cons (.get (.lvar 1) (.var 86) 2) (.cons (.get (.lvar 1) (.var 86) 3) (.consb (.getb (.lvar 1) (.var 86) 4) (.cons (.get (.lvar 1) (.var 86) 5) (.cons (.get (.lvar 1) (.var 86) 6) (.cons (.get (.lvar 1) (.var 86) 7) (.cons (.get (.lvar 1) (.var 86) 8) .nil)))))))))) 170
(.call 7 [.bool, .int .i64] (.cons (.get (.lvar 1) (.var 86) 1) (.cons (.lit 64) (.cons (.nth (.get (.lvar 1) (.var 86) 5) (.vs 10 11 .nil)) (.cons (.var 170) .nil)))) 171
(.br (.bvar 171)
(.call 4 [.int .i64, .bool] (.cons (.var 86) (.cons (.get (.lvar 1) (.var 86) 0) (.cons (.get (.lvar 1) (.var 86) 1) (.cons (.get (.lvar 1) (.var 86) 2) (.cons (.get (.lvar 1) (.var 86) 3) (.consb (.getb (.lvar 1) (.var 86) 4) (.cons (.get (.lvar 1) (.var 86) 5) (.cons (.get (.lvar 1) (.var 86) 6) (.cons (.get (.lvar 1) (.var 86) 7) (.cons (.get (.lvar 1) (.var 86) 8) .nil)))))))))) 173
(.next 0 (.cons (.bin .sub .i64 (.var 9) (.lit 1)) (.vs 10 76 (.cons (.var 173) (.cons (.var 173) (.vs 10 77 (.consl (.lvar 165) (.consl (.lvar 166) (.consl (.lvar 167) (.consl (.lvar 168) .nil)))))))))))
(.next 0 (.cons (.bin .sub .i64 (.var 9) (.lit 1)) (.vs 10 76 (.cons (.bin .add .i64 (.var 86) (.lit 1)) (.cons (.bin .add .i64 (.var 86) (.lit 1)) (.vs 10 77 (.consl (.lvar 165) (.consl (.lvar 166) (.consl (.lvar 167) (.consl (.lvar 168) .nil)))))))))))))
.panic))
(.br (.eq (.get (.lvar 1) (.var 86) 0) (.lit 4))
(.call 4 [.int .i64, .bool] (.cons (.var 86) (.cons (.get (.lvar 1) (.var 86) 0) (.cons (.get (.lvar 1) (.var 86) 1) (.cons (.get (.lvar 1) (.var 86) 2) (.cons (.get (.lvar 1) (.var 86) 3) (.consb (.getb (.lvar 1) (.var 86) 4) (.cons (.get (.lvar 1) (.var 86) 5) (.cons (.get (.lvar 1) (.var 86) 6) (.cons (.get (.lvar 1) (.var 86) 7) (.cons (.get (.lvar 1) (.var 86) 8) .nil)))))))))) 170
(.next 0 (.cons (.bin .sub .i64 (.var 9) (.lit 1)) (.vs 10 76 (.cons (.var 170) (.cons (.var 170) (.vs 10 77 (.consl (.lvar 165) (.consl (.lvar 166) (.consl (.lvar 167) (.consl (.lvar 168) .nil)))))))))))
(.br (.eq (.get (.lvar 1) (.var 86) 0) (.lit 5))
(.br (.eq (.len (.lvar 165)) (.lit 0))
(.call 10 [.bool] .nil 170
(.leaf (.consb (.bvar 170) .nil)))
(.call 5 [.int .i64] (.cons (.get (.lvar 1) (.var 86) 8) .nil) 170
(.br (.lt (.bin .add .i64 (.lit 1) (.var 170)) (.lit 1))
.panic
(.br (.lt (.lit 11) (.bin .add .i64 (.lit 1) (.var 170)))
.panic
(.br (.lt (.lit 0) (.len (.lvar 165)))
(.br (.lt (.lit 5) (.len (.ldrop (.ltake (.lapp (.lapp (.lapp (.lapp (.lapp (.lapp (.lapp (.lapp (.lapp (.lapp (.lapp .lnil (.cons (.var 10) .nil)) (.cons (.var 11) .nil)) (.cons (.var 12) .nil)) (.cons (.var 13) .nil)) (.cons (.var 14) .nil)) (.cons (.var 15) .nil)) (.cons (.var 16) .nil)) (.cons (.var 17) .nil)) (.cons (.var 18) .nil)) (.cons (.var 19) .nil)) (.cons (.var 20) .nil)) (.bin .add .i64 (.lit 1) (.var 170))) (.lit 1))))
(.stuck 220)
(.br (.lt (.len (.lvar 166)) (.lit 1073741824))
(.br (.lt (.len (.lvar 165)) (.lit 1))
.panic
(.next 0 (.cons (.bin .sub .i64 (.var 9) (.lit 1)) (.cons (.get (.lvar 165) (.lit 0) 0) (.cons (.lit 0) (.cons (.lit 0) (.cons (.lit 0) (.cons (.lit 0) (.cons (.lit 0) (.vs 16 5 (.cons (.bin .andNot .i64 (.bin .andNot .i64 (.bin .andNot .i64 (.bin .andNot .i64 (.bin .andNot .i64 (.bin .or .i64 (.var 21) (.lit 1)) (.lit 2)) (.lit 4)) (.lit 8)) (.lit 16)) (.lit 32)) (.vs 22 64 (.cons (.bin .add .i64 (.var 86) (.lit 1)) (.cons (.bin .add .i64 (.var 86) (.lit 1)) (.vs 10 77 (.consl (.ldrop (.lvar 165) (.lit 1)) (.consl (.lapp (.lvar 166) (.cons (.get (.lvar 1) (.var 86) 8) (.cons (.get (.lvar 165) (.lit 0) 0) (.cons (.conv .i64 (.len (.ldrop (.ltake (.lapp (.lapp (.lapp (.lapp (.lapp (.lapp (.lapp (.lapp (.lapp (.lapp (.lapp .lnil (.cons (.var 10) .nil)) (.cons (.var 11) .nil)) (.cons (.var 12) .nil)) (.cons (.var 13) .nil)) (.cons (.var 14) .nil)) (.cons (.var 15) .nil)) (.cons (.var 16) .nil)) (.cons (.var 17) .nil)) (.cons (.var 18) .nil)) (.cons (.var 19) .nil)) (.cons (.var 20) .nil)) (.bin .add .i64 (.lit 1) (.var 170))) (.lit 1)))) (.cons (.get (.ldrop (.ltake (.lapp (.lapp (.lapp (.lapp (.lapp (.lapp (.lapp (.lapp (.lapp (.lapp (.lapp .lnil (.cons (.var 10) .nil)) (.cons (.var 11) .nil)) (.cons (.var 12) .nil)) (.cons (.var 13) .nil)) (.cons (.var 14) .nil)) (.cons (.var 15) .nil)) (.cons (.var 16) .nil)) (.cons (.var 17) .nil)) (.cons (.var 18) .nil)) (.cons (.var 19) .nil)) (.cons (.var 20) .nil)) (.bin .add .i64 (.lit 1) (.var 170))) (.lit 1)) (.lit 0) 0) (.cons (.get (.ldrop (.ltake (.lapp (.lapp (.lapp (.lapp (.lapp (.lapp (.lapp (.lapp (.lapp (.lapp (.lapp .lnil (.cons (.var 10) .nil)) (.cons (.var 11) .nil)) (.cons (.var 12) .nil)) (.cons (.var 13) .nil)) (.cons (.var 14) .nil)) (.cons (.var 15) .nil)) (.cons (.var 16) .nil)) (.cons (.var 17) .nil)) (.cons (.var 18) .nil)) (.cons (.var 19) .nil)) (.cons (.var 20) .nil)) (.bin .add .i64 (.lit 1) (.var 170))) (.lit 1)) (.lit 1) 0) (.cons (.get (.ldrop (.ltake (.lapp (.lapp (.lapp (.lapp (.lapp (.lapp (.lapp (.lapp (.lapp (.lapp (.lapp .lnil (.cons (.var 10) .nil)) (.cons (.var 11) .nil)) (.cons (.var 12) .nil)) (.cons (.var 13) .nil)) (.cons (.var 14) .nil)) (.cons (.var 15) .nil)) (.cons (.var 16) .nil)) (.cons (.var 17) .nil)) (.cons (.var 18) .nil)) (.cons (.var 19) .nil)) (.cons (.var 20) .nil)) (.bin .add .i64 (.lit 1) (.var 170))) (.lit 1)) (.lit 2) 0) (.cons (.get (.ldrop (.ltake (.lapp (.lapp (.lapp (.lapp (.lapp (.lapp (.lapp (.lapp (.lapp (.lapp (.lapp .lnil (.cons (.var 10) .nil)) (.cons (.var 11) .nil)) (.cons (.var 12) .nil)) (.cons (.var 13) .nil)) (.cons (.var 14) .nil)) (.cons (.var 15) .nil)) (.cons (.var 16) .nil)) (.cons (.var 17) .nil)) (.cons (.var 18) .nil)) (.cons (.var 19) .nil)) (.cons (.var 20) .nil)) (.bin .add .i64 (.lit 1) (.var 170))) (.lit 1)) (.lit 3) 0) (.cons (.get (.ldrop (.ltake (.lapp (.lapp (.lapp (.lapp (.lapp (.lapp (.lapp (.lapp (.lapp (.lapp (.lapp .lnil (.cons (.var 10) .nil)) (.cons (.var 11) .nil)) (.cons (.var 12) .nil)) (.cons (.var 13) .nil)) (.cons (.var 14) .nil)) (.cons (.var 15) .nil)) (.cons (.var 16) .nil)) (.cons (.var 17) .nil)) (.cons (.var 18) .nil)) (.cons (.var 19) .nil)) (.cons (.var 20) .nil)) (.bin .add .i64 (.lit 1) (.var 170))) (.lit 1)) (.lit 4) 0) .nil))))))))) (.consl (.lvar 167) (.consl (.lvar 168) .nil)))))))))))))))))))
.panic))
.panic)))))
(.br (.eq (.get (.lvar 1) (.var 86) 0) (.lit 6))
(.call 10 [.bool] .nil 170
(.leaf (.consb (.bvar 170) .nil)))
.panic)))))))
(.call 10 [.bool] .nil 170
(.leaf (.consb (.bvar 170) .nil))))))
(.leaf (.consb (.tt false) .nil))))
(.call 10 [.bool] .nil 169
(.leaf (.consb (.bvar 169) .nil)))))
.panic))))
(.call 10 [.bool] .nil 9
(.leaf (.consb (.bvar 9) .nil))))
(.call 10 [.bool] .nil 9
(.leaf (.consb (.bvar 9) .nil)))))
(.call 10 [.bool] .nil 7
(.leaf (.consb (.bvar 7) .nil)))))))))
def sP_lstays : Spec := ⟨fun k => match k with | 0 => sF_mnum | 1 => sF_msec | 2 => sF_mctx | 3 => sF_icheck | 4 => sF_itgt | 5 => sF_iargs | 6 => sF_bits | 7 => sF_holds | 8 => sF_mread | 9 => sF_mwants | 10 => sF_lwakes | 11 => sF_jcheck | _ => fun _ => [], fun k => match k with | 1 => sQ_msec | 2 => sQ_mctx | 3 => sQ_icheck | 8 => sQ_mread | 9 => sQ_mwants | 11 => sQ_jcheck | _ => fun _ => True⟩
set_option maxRecDepth 100000 in
theorem sR_lstays : treeIs tys_MoT [sM_mnum 0, sM_msec 1, sM_mctx 2, sM_icheck 3, sM_itgt 4, sM_iargs 5, sM_bits 6, sM_holds 7, sM_mread 8, sM_mwants 9, sM_lwakes 10, sM_jcheck 11] [(38, Try.f38, [(999999, []), (999998, [])], []), (58, Try.f58, [(999999, []), (999998, [])], []), (59, Try.f59, [(999999, []), (999998, [])], []), (60, Try.f60, [(999999, []), (999998, [])], []), (61, Try.f61, [(999999, []), (999998, [])], []), (62, Try.f62, [(999999, []), (999998, [])], []), (63, Try.f63, [(999999, []), (999998, [])], []), (64, Try.f64, [(999999, []), (999998, [])], []), (36, Try.f36, [(999999, []), (999998, [])], []), (88, Try.f88, [(999999, []), (999998, [])], [(5, [.top 15, .top 18, .top 16, .top 17, .top 8, .top 9, .top 19, .top 20, .top 21, .top 22, .top 23, .top 24, .top 25, .top 26, .top 27, .top 28, .top 29, .top 30, .top 31, .top 32]), (13, [.top 13, .top 14, .top 35, .top 10, .top 36, .top 37, .top 38, .top 39, .top 40, .top 11, .top 41, .top 42, .top 12, .top 44, .top 45, .top 46, .top 47, .top 43, .top 48, .top 49, .top 50, .top 51, .top 52, .top 53, .top 54, .top 55, .top 56, .top 57, .top 58, .top 59, .top 60, .top 61, .top 8, .top 9])]), (105, Try.f105, [(999999, []), (999998, [])], [(3, [.tmpB 43, .top 15, .top 16, .top 17, .top 18, .top 19, .top 20, .top 21, .top 22, .top 23, .top 24, .top 25, .top 26, .top 27, .top 28, .top 29, .top 30, .top 31, .top 32, .top 33, .top 34, .top 35, .top 36, .top 37, .top 38, .top 39, .top 40, .top 41, .top 42])]), (78, Try.f78, [(999999, []), (999998, [])], []), (39, Try.f39, [(999999, []), (999998, [])], []), (57, Try.f57, [(999999, []), (999998, [])], []), (77, Try.f77, [(3, [.tmpI 21 .i64, .row 20, .row 21, .top 22, .top 23, .top 11, .top 24, .top 25, .top 26, .top 27, .top 28, .top 29, .top 30, .top 31, .top 32]), (999999, []), (999998, [])], []), (23, Try.f23, [(999999, []), (999998, [])], []), (35, Try.f35, [(999999, []), (999998, [])], []), (24, Try.f24, [(999999, []), (999998, [])], []), (9, Try.f9, [(999999, []), (999998, [])], []), (17, Try.f17, [(999999, []), (999998, [])], []), (32, Try.f32, [(999999, []), (999998, [])], []), (37, Try.f37, [(2, [.celI 23 0 .i64, .cels 22 3 [some .u64, some .u64, some .u64, some .u64, some .u64, some .u64, some .u64, some .u64, some .u64, some .u64, some .u64, some .i64, some .u8, some .u8, some .u8, some .u8, some .u8, some .u8, some .u8, some .u8, some .u8, some .u8, some .u8, some .u8, some .u8, some .u8, some .u8, some .u8, some .u8, some .u8, some .u8, some .u8, some .u8, some .u8, some .u8, some .u8, some .u8, some .u8, some .u8, some .u8, some .u8, some .u8, some .u8, some .u8, some .u8, some .u8, some .u8, some .u8, some .u8, some .u8, some .u8, some .u8, some .u8, some .u8, some .u8, some .u8, some .u8, some .u8, some .u8, some .u8, some .u8, some .u8, some .u8, some .u8, some .u8, some .u8, some .u8, some .u8, some .u8, some .u8, some .u8, some .u8, some .u8, some .u8, some .u8, some .u8, some .i64, some .i64], .cels 10 0 [some .u64, some .u64, some .u64, some .u64, some .u64, some .u64, some .u64, some .u64, some .u64, some .u64, some .u64, some .i64, some .u8, some .u8, some .u8, some .u8, some .u8, some .u8, some .u8, some .u8, some .u8, some .u8, some .u8, some .u8, some .u8, some .u8, some .u8, some .u8, some .u8, some .u8, some .u8, some .u8, some .u8, some .u8, some .u8, some .u8, some .u8, some .u8, some .u8, some .u8, some .u8, some .u8, some .u8, some .u8, some .u8, some .u8, some .u8, some .u8, some .u8, some .u8, some .u8, some .u8, some .u8, some .u8, some .u8, some .u8, some .u8, some .u8, some .u8, some .u8, some .u8, some .u8, some .u8, some .u8, some .u8, some .u8, some .u8, some .u8, some .u8, some .u8, some .u8, some .u8, some .u8, some .u8, some .u8, some .u8], .celI 11 0 .i64, .celV 22 81 [some .u64] 30, .celS 22 82 evKs 39, .row 20, .row 21, .top 11, .top 12, .top 13, .top 14, .top 15, .top 16, .top 17, .top 18, .top 19, .top 20, .top 21, .top 22, .top 23, .top 24, .top 25, .top 26, .top 27, .top 28, .top 29, .top 30, .top 31, .top 32, .top 33]), (999999, []), (999998, [])], [])] [(26, [.tmpI 18 .i64, .top 69, .top 70, .top 71, .top 72, .top 73, .top 74, .top 75, .top 76, .top 77, .top 78, .top 79, .top 80, .top 81, .top 82, .top 83, .top 84, .top 85, .top 86, .top 87, .top 88, .top 89, .top 90, .top 91, .top 92, .top 93, .top 94, .top 95, .top 96, .top 97, .top 98, .top 99, .top 100, .top 101]), (999999, []), (999998, [])] [(25, [.tmpI 17 .i64, .top 59, .top 60, .top 61, .top 62, .top 63, .top 64, .top 65, .top 66, .top 67, .top 68]), (32, [.top 16, .top 17, .top 18, .top 52, .top 53, .top 54, .top 55, .top 56, .top 57, .top 58, .top 59, .top 60, .top 61, .top 62, .top 63, .top 64, .top 65, .top 66, .top 67, .top 68, .top 69, .top 70, .top 71, .top 72, .top 73, .top 74, .top 75, .top 76, .top 77, .top 78, .top 79, .top 80, .top 81, .top 82, .top 83, .top 84, .top 85, .top 86, .top 87, .top 88, .top 89, .top 90, .top 91, .top 92, .top 93, .top 94, .top 95, .top 96, .top 97, .top 98, .top 99, .top 100, .top 101, .top 102, .top 103, .top 104, .top 105, .top 106, .top 107, .top 108, .top 109, .top 110, .top 111])] 200 Try.f6 [.agg kProg, .one (.sl [some .u8] 5), .one (.sl [some .u64] 30), .one (.int .i64)] [.one .bool] false [.int .i64, .list [some .i8, some .i8, some .i8, some .i8, none, some .i8, some .i8, some .i64, some .i64], .list [some .u8], .list [some .u64], .int .i64] sT_lstays := ⟨by kernel_rfl, by kernel_rfl, by kernel_rfl⟩
set_option maxRecDepth 100000 in
set_option maxHeartbeats 8000000 in
theorem sX_lstays (p : Prog) (hp : Prog.ok p) (cx : List (List Int)) (hcx : RowsIn [some .u8] cx) (an : List (List Int)) (han : RowsIn [some .u64] an) (fu : Int) (hfu : inK .i64 fu = true) (ρ : Env) (g : varsD ρ 0 [.int .i64, .list [some .i8, some .i8, some .i8, some .i8, none, some .i8, some .i8, some .i64, some .i64], .list [some .u8], .list [some .u64], .int .i64] = [.z p.ctx, .l p.l, .l cx, .l an, .z fu]) : sT_lstays.asks sP_lstays (fun ρ e => e.D ρ = sF_lstays [.z p.ctx, .l p.l, .l cx, .l an, .z fu]) ρ fun _ _ => False := by
 have keepg := g
 simp only [varsD, varD, List.cons.injEq, Dt.z.injEq, Dt.l.injEq, b2i_eq_iff, Nat.reduceAdd, and_true] at g
 simp only [sT_lstays, sP_lstays, sF_mnum, sF_msec, sF_mctx, sF_icheck, sF_itgt, sF_iargs, sF_bits, sF_holds, sF_mread, sF_mwants, sF_lwakes, sF_jcheck, sV_mnum, sV_msec, sV_mctx, sV_icheck, sV_itgt, sV_iargs, sV_bits, sV_holds, sV_mread, sV_mwants, sV_jcheck, sF_lstays, sV_lstays, sQ_msec, sQ_mctx, sQ_icheck, sQ_mread, sQ_mwants, sQ_jcheck, Tr.asks, upd_same, okDs, okD, eqs, E.I, E.B, E.L, E.R, E.D, E.vs, dI, dB, dL, varD, varsD, List.getElem?_cons_zero, List.getElem?_cons_succ, List.cons_append, List.nil_append, Nat.zero_add, Nat.add_zero, Nat.reduceAdd, and_true, true_and, b2i_one, -eq_self, Ins.eta, Prog.eta, insAt_mk, g]
 obtain ⟨k0_i0, k0_l1, k0_l2, k0_l3, k0_i4⟩ := g
 have hpl := hp.2.len
 refine ⟨fun c0 => ?_, fun c0 => ?_⟩
 intro e; (try simp only [e, Ins.eta, Prog.eta, insAt_mk, -eq_self]); clear e
 ·rfl
 refine ⟨fun c1 => ?_, fun c1 => ?_⟩
 intro e; (try simp only [e, Ins.eta, Prog.eta, insAt_mk, -eq_self]); clear e
 ·rfl
 refine ⟨fun c2 => ?_, fun c2 => ?_⟩
 intro e; (try simp only [e, Ins.eta, Prog.eta, insAt_mk, -eq_self]); clear e
 ·rfl
 refine ⟨fun c3 => ?_, fun c3 => ?_⟩
 refine ⟨fun c4 => ?_, fun c4 => ?_⟩
 refine ⟨?_, ?_⟩
 ·exact hpl
 intro e; (try simp only [e, Ins.eta, Prog.eta, insAt_mk, -eq_self]); clear e
 refine ⟨fun c5 => ?_, fun c5 => ?_⟩
 refine ⟨?_, ?_⟩
 ·exact hpl
 intro e; (try simp only [e, Ins.eta, Prog.eta, insAt_mk, -eq_self]); clear e
 refine ⟨fun c6 => ?_, fun c6 => ?_⟩
 refine ⟨fun c7 => ?_, fun c7 => ?_⟩
 refine ⟨fun c8 => ?_, fun c8 => ?_⟩
 intro e; (try simp only [e, Ins.eta, Prog.eta, insAt_mk, -eq_self]); clear e
 ·rfl
 intro e; (try simp only [e, Ins.eta, Prog.eta, insAt_mk, -eq_self]); clear e
 ·rfl
 intro e; (try simp only [e, Ins.eta, Prog.eta, insAt_mk, -eq_self]); clear e
 ·rfl
 intro e; (try simp only [e, Ins.eta, Prog.eta, insAt_mk, -eq_self]); clear e
 ·rfl
 intro e; (try simp only [e, Ins.eta, Prog.eta, insAt_mk, -eq_self]); clear e
 ·rfl
 intro e; (try simp only [e, Ins.eta, Prog.eta, insAt_mk, -eq_self]); clear e
 ·rfl
 refine ⟨?_, ?_⟩
 ·exact hpl
 intro e; (try simp only [e, Ins.eta, Prog.eta, insAt_mk, -eq_self]); clear e
 refine ⟨fun c9 => ?_, fun c9 => ?_⟩
 refine ⟨?_, ?_⟩
 ·exact hpl
 intro e; (try simp only [e, Ins.eta, Prog.eta, insAt_mk, -eq_self]); clear e
 refine ⟨fun c10 => ?_, fun c10 => ?_⟩
 refine ⟨fun c11 => ?_, fun c11 => ?_⟩
 refine ⟨fun c12 => ?_, fun c12 => ?_⟩
 intro e; (try simp only [e, Ins.eta, Prog.eta, insAt_mk, -eq_self]); clear e
 ·rfl
 refine ⟨fun c13 => ?_, fun c13 => ?_⟩
 intro e; (try simp only [e, Ins.eta, Prog.eta, insAt_mk, -eq_self]); clear e
 ·rfl
 refine ⟨fun c14 => ?_, fun c14 => ?_⟩
 intro e; (try simp only [e, Ins.eta, Prog.eta, insAt_mk, -eq_self]); clear e
 ·rfl
 refine ⟨fun c15 => ?_, fun c15 => ?_⟩
 have hok : (icheck p).2 = 0 := eqI c10
 have hf : 0 ≤ fu ∧ fu ≤ 10000 := by have := of_decide_eq_false c12; have := of_decide_eq_false c13; omega
 have hcx : cx.length ≤ 256 := by have := of_decide_eq_false c14; omega
 have hI := icheck_ok hpl hok
 refine ⟨SInv p cx an fu, fun ds => (dI ds 0).toNat, SAt.init hf.1 hI.1.2.1 _ _ _ _, ?_⟩
 intro ρ1 ha1 hx1 hi1
 clear hx1
 obtain ⟨FR, hFR⟩ : ∃ F : List Dt, F = [.z (ρ1.i 22), .z (ρ1.i 23), .z (ρ1.i 24), .z (ρ1.i 25), .z (ρ1.i 26), .z (ρ1.i 27), .z (ρ1.i 28), .z (ρ1.i 29), .z (ρ1.i 30), .z (ρ1.i 31), .z (ρ1.i 32), .z (ρ1.i 33), .z (ρ1.i 34), .z (ρ1.i 35), .z (ρ1.i 36), .z (ρ1.i 37), .z (ρ1.i 38), .z (ρ1.i 39), .z (ρ1.i 40), .z (ρ1.i 41), .z (ρ1.i 42), .z (ρ1.i 43), .z (ρ1.i 44), .z (ρ1.i 45), .z (ρ1.i 46), .z (ρ1.i 47), .z (ρ1.i 48), .z (ρ1.i 49), .z (ρ1.i 50), .z (ρ1.i 51), .z (ρ1.i 52), .z (ρ1.i 53), .z (ρ1.i 54), .z (ρ1.i 55), .z (ρ1.i 56), .z (ρ1.i 57), .z (ρ1.i 58), .z (ρ1.i 59), .z (ρ1.i 60), .z (ρ1.i 61), .z (ρ1.i 62), .z (ρ1.i 63), .z (ρ1.i 64), .z (ρ1.i 65), .z (ρ1.i 66), .z (ρ1.i 67), .z (ρ1.i 68), .z (ρ1.i 69), .z (ρ1.i 70), .z (ρ1.i 71), .z (ρ1.i 72), .z (ρ1.i 73), .z (ρ1.i 74), .z (ρ1.i 75), .z (ρ1.i 76), .z (ρ1.i 77), .z (ρ1.i 78), .z (ρ1.i 79), .z (ρ1.i 80), .z (ρ1.i 81), .z (ρ1.i 82), .z (ρ1.i 83), .z (ρ1.i 84), .z (ρ1.i 85)] := ⟨_, rfl⟩
 obtain ⟨WF, hWF⟩ : ∃ F : List Dt, F = [.z (ρ1.i 100), .z (ρ1.i 101), .z (ρ1.i 102), .z (ρ1.i 103), .z (ρ1.i 104), .z (ρ1.i 105), .z (ρ1.i 106), .z (ρ1.i 107), .z (ρ1.i 108), .z (ρ1.i 109), .z (ρ1.i 110), .z (ρ1.i 111), .z (ρ1.i 112), .z (ρ1.i 113), .z (ρ1.i 114), .z (ρ1.i 115), .z (ρ1.i 116), .z (ρ1.i 117), .z (ρ1.i 118), .z (ρ1.i 119), .z (ρ1.i 120), .z (ρ1.i 121), .z (ρ1.i 122), .z (ρ1.i 123), .z (ρ1.i 124), .z (ρ1.i 125), .z (ρ1.i 126), .z (ρ1.i 127), .z (ρ1.i 128), .z (ρ1.i 129), .z (ρ1.i 130), .z (ρ1.i 131), .z (ρ1.i 132), .z (ρ1.i 133), .z (ρ1.i 134), .z (ρ1.i 135), .z (ρ1.i 136), .z (ρ1.i 137), .z (ρ1.i 138), .z (ρ1.i 139), .z (ρ1.i 140), .z (ρ1.i 141), .z (ρ1.i 142), .z (ρ1.i 143), .z (ρ1.i 144), .z (ρ1.i 145), .z (ρ1.i 146), .z (ρ1.i 147), .z (ρ1.i 148), .z (ρ1.i 149), .z (ρ1.i 150), .z (ρ1.i 151), .z (ρ1.i 152), .z (ρ1.i 153), .z (ρ1.i 154), .z (ρ1.i 155), .z (ρ1.i 156), .z (ρ1.i 157), .z (ρ1.i 158), .z (ρ1.i 159), .z (ρ1.i 160), .z (ρ1.i 161), .z (ρ1.i 162), .z (ρ1.i 163)] := ⟨_, rfl⟩
 have hS : SAt p cx an fu (ρ1.i 9) (ρ1.i 164) ⟨[ρ1.i 10, ρ1.i 11, ρ1.i 12, ρ1.i 13, ρ1.i 14, ρ1.i 15, ρ1.i 16, ρ1.i 17, ρ1.i 18, ρ1.i 19, ρ1.i 20], ρ1.i 21, ρ1.i 86, ρ1.l 165, ρ1.l 166, ρ1.l 167, ρ1.l 168⟩ [ρ1.i 88, ρ1.i 89, ρ1.i 90, ρ1.i 91, ρ1.i 92, ρ1.i 93, ρ1.i 94, ρ1.i 95, ρ1.i 96, ρ1.i 97, ρ1.i 98] (ρ1.i 99) FR WF := by rw [hFR, hWF]; exact hi1
 clear hi1
 obtain ⟨left, k1_i9⟩ : ∃ z, ρ1.i 9 = z := ⟨_, rfl⟩
 obtain ⟨r0, k1_i10⟩ : ∃ z, ρ1.i 10 = z := ⟨_, rfl⟩
 obtain ⟨r1, k1_i11⟩ : ∃ z, ρ1.i 11 = z := ⟨_, rfl⟩
 obtain ⟨r2, k1_i12⟩ : ∃ z, ρ1.i 12 = z := ⟨_, rfl⟩
 obtain ⟨r3, k1_i13⟩ : ∃ z, ρ1.i 13 = z := ⟨_, rfl⟩
 obtain ⟨r4, k1_i14⟩ : ∃ z, ρ1.i 14 = z := ⟨_, rfl⟩
 obtain ⟨r5, k1_i15⟩ : ∃ z, ρ1.i 15 = z := ⟨_, rfl⟩
 obtain ⟨r6, k1_i16⟩ : ∃ z, ρ1.i 16 = z := ⟨_, rfl⟩
 obtain ⟨r7, k1_i17⟩ : ∃ z, ρ1.i 17 = z := ⟨_, rfl⟩
 obtain ⟨r8, k1_i18⟩ : ∃ z, ρ1.i 18 = z := ⟨_, rfl⟩
 obtain ⟨r9, k1_i19⟩ : ∃ z, ρ1.i 19 = z := ⟨_, rfl⟩
 obtain ⟨r10, k1_i20⟩ : ∃ z, ρ1.i 20 = z := ⟨_, rfl⟩
 obtain ⟨st, k1_i21⟩ : ∃ z, ρ1.i 21 = z := ⟨_, rfl⟩
 obtain ⟨pc, k1_i86⟩ : ∃ z, ρ1.i 86 = z := ⟨_, rfl⟩
 obtain ⟨a1, k1_l165⟩ : ∃ z, ρ1.l 165 = z := ⟨_, rfl⟩
 obtain ⟨t1, k1_l166⟩ : ∃ z, ρ1.l 166 = z := ⟨_, rfl⟩
 obtain ⟨c1, k1_l167⟩ : ∃ z, ρ1.l 167 = z := ⟨_, rfl⟩
 obtain ⟨f1, k1_l168⟩ : ∃ z, ρ1.l 168 = z := ⟨_, rfl⟩
 obtain ⟨w0, k1_i88⟩ : ∃ z, ρ1.i 88 = z := ⟨_, rfl⟩
 obtain ⟨w1, k1_i89⟩ : ∃ z, ρ1.i 89 = z := ⟨_, rfl⟩
 obtain ⟨w2, k1_i90⟩ : ∃ z, ρ1.i 90 = z := ⟨_, rfl⟩
 obtain ⟨w3, k1_i91⟩ : ∃ z, ρ1.i 91 = z := ⟨_, rfl⟩
 obtain ⟨w4, k1_i92⟩ : ∃ z, ρ1.i 92 = z := ⟨_, rfl⟩
 obtain ⟨w5, k1_i93⟩ : ∃ z, ρ1.i 93 = z := ⟨_, rfl⟩
 obtain ⟨w6, k1_i94⟩ : ∃ z, ρ1.i 94 = z := ⟨_, rfl⟩
 obtain ⟨w7, k1_i95⟩ : ∃ z, ρ1.i 95 = z := ⟨_, rfl⟩
 obtain ⟨w8, k1_i96⟩ : ∃ z, ρ1.i 96 = z := ⟨_, rfl⟩
 obtain ⟨w9, k1_i97⟩ : ∃ z, ρ1.i 97 = z := ⟨_, rfl⟩
 obtain ⟨w10, k1_i98⟩ : ∃ z, ρ1.i 98 = z := ⟨_, rfl⟩
 obtain ⟨ws, k1_i99⟩ : ∃ z, ρ1.i 99 = z := ⟨_, rfl⟩
 obtain ⟨last, k1_i164⟩ : ∃ z, ρ1.i 164 = z := ⟨_, rfl⟩
 simp only [k1_i9, k1_i10, k1_i11, k1_i12, k1_i13, k1_i14, k1_i15, k1_i16, k1_i17, k1_i18, k1_i19, k1_i20, k1_i21, k1_i86, k1_l165, k1_l166, k1_l167, k1_l168, k1_i88, k1_i89, k1_i90, k1_i91, k1_i92, k1_i93, k1_i94, k1_i95, k1_i96, k1_i97, k1_i98, k1_i99, k1_i164] at hS
 have k1_l1 := kL ha1 k0_l1
 have hR := hS.run
 have h256 : c1.length ≤ 256 := by have := hR.cxl; exact Nat.le_trans (Nat.le_of_eq this) hcx
 have hfit := fit_of h256 hR.fm
 have q0 : 0 ≤ pc := hR.pc0
 have q1 : pc < (p.l.length : Int) := hR.pc1
 have q2 : f1.length = 64 := hR.fm
 have q4 : (t1.length : Int) + left ≤ fu := hR.tr
 have q5 := hR.lo
 have q6 := hR.hi
 have q7 := hS.lst
 simp only [k1_l1, k1_i9, k1_i10, k1_i11, k1_i12, k1_i13, k1_i14, k1_i15, k1_i16, k1_i17, k1_i18, k1_i19, k1_i20, k1_i21, k1_i86, k1_l165, k1_l166, k1_l167, k1_l168, k1_i88, k1_i89, k1_i90, k1_i91, k1_i92, k1_i93, k1_i94, k1_i95, k1_i96, k1_i97, k1_i98, k1_i99, k1_i164, insAt_mk, -eq_self]
 refine ⟨fun c16 => ?_, fun c16 => ?_⟩
 refine ⟨fun c17 => ?_, fun c17 => ?_⟩
 ·exact absurd (of_decide_eq_true c17) (by omega)
 refine ⟨fun c18 => ?_, fun c18 => ?_⟩
 refine ⟨fun ds => ds = [], ?_, ?_⟩
 refine ⟨fun c19 => ?_, fun c19 => ?_⟩
 ·rfl
 refine ⟨fun c20 => ?_, fun c20 => ?_⟩
 have h0 : 0 ≤ last := by have := of_decide_eq_false c19; omega
 have hmayl := may_at hpl hok h0 q7
 have hdl : 0 ≤ gt p.l last 5 ∧ gt p.l last 5 ≤ 10 := ⟨(imay_d hmayl).1, (imay_d hmayl).2.1⟩
 obtain ⟨y1, y2⟩ := hS.sty h0
 refine ⟨fun ds => ds = [.z (wrK (insAt p.l last))], ?_, ?_⟩
 refine ⟨fun c21 => ?_, fun c21 => ?_⟩
 refine ⟨fun c22 => ?_, fun c22 => ?_⟩
 ·exact absurd (of_decide_eq_true c22) (by omega)
 ·exact congrArg (fun z => [Dt.z z]) (show opI .shl .i64 1 (gt p.l last 5) = wrK (insAt p.l last) by unfold wrK; rw [if_pos (show (insAt p.l last).k = 0 ∨ (insAt p.l last).k = 1 from .inl (eqI c21))]; rfl)
 refine ⟨fun c23 => ?_, fun c23 => ?_⟩
 refine ⟨fun c24 => ?_, fun c24 => ?_⟩
 ·exact absurd (of_decide_eq_true c24) (by omega)
 ·exact congrArg (fun z => [Dt.z z]) (show opI .shl .i64 1 (gt p.l last 5) = wrK (insAt p.l last) by unfold wrK; rw [if_pos (show (insAt p.l last).k = 0 ∨ (insAt p.l last).k = 1 from .inr (eqI c23))]; rfl)
 refine ⟨fun c25 => ?_, fun c25 => ?_⟩
 ·have n1 := neI c21
  have n2 := neI c23
  exact congrArg (fun z => [Dt.z z]) (show (63 : Int) = wrK (insAt p.l last) by unfold wrK; rw [if_neg (show ¬ ((insAt p.l last).k = 0 ∨ (insAt p.l last).k = 1) from fun h => h.elim n1 n2), if_pos (show (insAt p.l last).k = 5 from eqI c25)])
 ·have n1 := neI c21
  have n2 := neI c23
  have n3 := neI c25
  exact congrArg (fun z => [Dt.z z]) (show (0 : Int) = wrK (insAt p.l last) by unfold wrK; rw [if_neg (show ¬ ((insAt p.l last).k = 0 ∨ (insAt p.l last).k = 1) from fun h => h.elim n1 n2), if_neg (show ¬ (insAt p.l last).k = 5 from n3)])
 intro ρ2 ha2 _ hi2
 simp only [List.cons.injEq, Dt.z.injEq, Dt.l.injEq, b2i_eq_iff, and_true] at hi2
 have k2_i169 := hi2
 have k2_l1 := kL ha2 k1_l1
 have k2_i9 := kI ha2 k1_i9
 have k2_i10 := kI ha2 k1_i10
 have k2_i11 := kI ha2 k1_i11
 have k2_i12 := kI ha2 k1_i12
 have k2_i13 := kI ha2 k1_i13
 have k2_i14 := kI ha2 k1_i14
 have k2_i15 := kI ha2 k1_i15
 have k2_i16 := kI ha2 k1_i16
 have k2_i17 := kI ha2 k1_i17
 have k2_i18 := kI ha2 k1_i18
 have k2_i19 := kI ha2 k1_i19
 have k2_i20 := kI ha2 k1_i20
 have k2_i21 := kI ha2 k1_i21
 have k2_i86 := kI ha2 k1_i86
 have k2_l165 := kL ha2 k1_l165
 have k2_l166 := kL ha2 k1_l166
 have k2_l167 := kL ha2 k1_l167
 have k2_l168 := kL ha2 k1_l168
 have k2_i88 := kI ha2 k1_i88
 have k2_i89 := kI ha2 k1_i89
 have k2_i90 := kI ha2 k1_i90
 have k2_i91 := kI ha2 k1_i91
 have k2_i92 := kI ha2 k1_i92
 have k2_i93 := kI ha2 k1_i93
 have k2_i94 := kI ha2 k1_i94
 have k2_i95 := kI ha2 k1_i95
 have k2_i96 := kI ha2 k1_i96
 have k2_i97 := kI ha2 k1_i97
 have k2_i98 := kI ha2 k1_i98
 have k2_i99 := kI ha2 k1_i99
 have k2_i164 := kI ha2 k1_i164
 try simp only [k2_l1, k2_i9, k2_i10, k2_i11, k2_i12, k2_i13, k2_i14, k2_i15, k2_i16, k2_i17, k2_i18, k2_i19, k2_i20, k2_i21, k2_i86, k2_l165, k2_l166, k2_l167, k2_l168, k2_i88, k2_i89, k2_i90, k2_i91, k2_i92, k2_i93, k2_i94, k2_i95, k2_i96, k2_i97, k2_i98, k2_i99, k2_i164, k2_i169, insAt_mk, -eq_self]
 refine ⟨fun ds => ∃ n : Nat, ds = [.z (n : Int)] ∧ n ≤ 11, fun ds => 11 - (dI ds 0).toNat, ⟨0, rfl, Nat.zero_le _⟩, ?_⟩
 intro ρ3 ha3 _ hi3
 obtain ⟨n, hds, hn⟩ := hi3
 simp only [List.cons.injEq, Dt.z.injEq, Dt.l.injEq, b2i_eq_iff, and_true] at hds
 have k3_i170 := hds
 have k3_l1 := kL ha3 k2_l1
 have k3_i9 := kI ha3 k2_i9
 have k3_i10 := kI ha3 k2_i10
 have k3_i11 := kI ha3 k2_i11
 have k3_i12 := kI ha3 k2_i12
 have k3_i13 := kI ha3 k2_i13
 have k3_i14 := kI ha3 k2_i14
 have k3_i15 := kI ha3 k2_i15
 have k3_i16 := kI ha3 k2_i16
 have k3_i17 := kI ha3 k2_i17
 have k3_i18 := kI ha3 k2_i18
 have k3_i19 := kI ha3 k2_i19
 have k3_i20 := kI ha3 k2_i20
 have k3_i21 := kI ha3 k2_i21
 have k3_i86 := kI ha3 k2_i86
 have k3_l165 := kL ha3 k2_l165
 have k3_l166 := kL ha3 k2_l166
 have k3_l167 := kL ha3 k2_l167
 have k3_l168 := kL ha3 k2_l168
 have k3_i88 := kI ha3 k2_i88
 have k3_i89 := kI ha3 k2_i89
 have k3_i90 := kI ha3 k2_i90
 have k3_i91 := kI ha3 k2_i91
 have k3_i92 := kI ha3 k2_i92
 have k3_i93 := kI ha3 k2_i93
 have k3_i94 := kI ha3 k2_i94
 have k3_i95 := kI ha3 k2_i95
 have k3_i96 := kI ha3 k2_i96
 have k3_i97 := kI ha3 k2_i97
 have k3_i98 := kI ha3 k2_i98
 have k3_i99 := kI ha3 k2_i99
 have k3_i164 := kI ha3 k2_i164
 have k3_i169 := kI ha3 k2_i169
 simp only [k3_l1, k3_i9, k3_i10, k3_i11, k3_i12, k3_i13, k3_i14, k3_i15, k3_i16, k3_i17, k3_i18, k3_i19, k3_i20, k3_i21, k3_i86, k3_l165, k3_l166, k3_l167, k3_l168, k3_i88, k3_i89, k3_i90, k3_i91, k3_i92, k3_i93, k3_i94, k3_i95, k3_i96, k3_i97, k3_i98, k3_i99, k3_i164, k3_i169, k3_i170, insAt_mk, -eq_self]
 refine ⟨fun c26 => ?_, fun c26 => ?_⟩
 refine ⟨fun c27 => ?_, fun c27 => ?_⟩
 ·exact absurd (of_decide_eq_true c27) (by omega)
 refine ⟨fun c28 => ?_, fun c28 => ?_⟩
 refine ⟨fun c29 => ?_, fun c29 => ?_⟩
 refine ⟨fun c30 => ?_, fun c30 => ?_⟩
 ·have hn2 : n < 11 := by have := of_decide_eq_true c26; omega
  rw [addO hn2 (by decide)]
  exact ⟨⟨n + 1, rfl, hn2⟩, by show 11 - (((n + 1 : Nat) : Int)).toNat < 11 - ((n : Int)).toNat; omega⟩
 ·have hn2 : n < 11 := by have := of_decide_eq_true c26; omega
  have y3 := y1 n hn2 (eqI c28)
  exact absurd y3.2 (by have := neI c30; simpa [bitI] using this)
 ·have hn2 : n < 11 := by have := of_decide_eq_true c26; omega
  have y3 := y1 n hn2 (eqI c28)
  exact absurd y3.1 (by have := neI c29; simpa [bitI] using this)
 ·have hn2 : n < 11 := by have := of_decide_eq_true c26; omega
  rw [addO hn2 (by decide)]
  exact ⟨⟨n + 1, rfl, hn2⟩, by show 11 - (((n + 1 : Nat) : Int)).toNat < 11 - ((n : Int)).toNat; omega⟩
 refine ⟨fun c31 => ?_, fun c31 => ?_⟩
 ·rfl
 refine ⟨fun c32 => ?_, fun c32 => ?_⟩
 ·rfl
 ·have y4 := y2 (neI c31)
  rw [hFR, hWF] at y4
  simp only [List.cons.injEq, Dt.z.injEq, and_true] at y4
  have fe : ∀ n, n < 169 → ρ3.i n = ρ1.i n := fun n hn => ((ha2 n hn).1.trans (ha3 n (Nat.lt_succ_of_lt hn)).1).symm
  simp [fe, y4] at c32
 ·exact absurd q7 (of_decide_eq_false c20)
 intro ρ2 ha2 _ _
 have k2_l1 := kL ha2 k1_l1
 have k2_i9 := kI ha2 k1_i9
 have k2_i10 := kI ha2 k1_i10
 have k2_i11 := kI ha2 k1_i11
 have k2_i12 := kI ha2 k1_i12
 have k2_i13 := kI ha2 k1_i13
 have k2_i14 := kI ha2 k1_i14
 have k2_i15 := kI ha2 k1_i15
 have k2_i16 := kI ha2 k1_i16
 have k2_i17 := kI ha2 k1_i17
 have k2_i18 := kI ha2 k1_i18
 have k2_i19 := kI ha2 k1_i19
 have k2_i20 := kI ha2 k1_i20
 have k2_i21 := kI ha2 k1_i21
 have k2_i86 := kI ha2 k1_i86
 have k2_l165 := kL ha2 k1_l165
 have k2_l166 := kL ha2 k1_l166
 have k2_l167 := kL ha2 k1_l167
 have k2_l168 := kL ha2 k1_l168
 simp only [k2_l1, k2_i9, k2_i10, k2_i11, k2_i12, k2_i13, k2_i14, k2_i15, k2_i16, k2_i17, k2_i18, k2_i19, k2_i20, k2_i21, k2_i86, k2_l165, k2_l166, k2_l167, k2_l168, insAt_mk, -eq_self]
 refine ⟨?_, ?_⟩
 ·exact may_at hpl hok hR.pc0 hR.pc1
 intro e; (try simp only [e, Ins.eta, Prog.eta, insAt_mk, -eq_self]); clear e
 refine ⟨fun c33 => ?_, fun c33 => ?_⟩
 refine ⟨fun c34 => ?_, fun c34 => ?_⟩
 refine ⟨fun c35 => ?_, fun c35 => ?_⟩
 ·have hmay := may_at hpl hok q0 q1
  have hd := hd_at hmay
  exact absurd (of_decide_eq_true c35) (by omega)
 refine ⟨fun c36 => ?_, fun c36 => ?_⟩
 refine ⟨?_, ?_⟩
 ·exact fun _ => (by have hd := imay_d (may_at hpl hok hR.pc0 hR.pc1); exact ⟨hd.2.2.1, hd.2.2.2.1⟩)
 intro e; (try simp only [e, Ins.eta, Prog.eta, insAt_mk, -eq_self]); clear e
 intro e; (try simp only [e, Ins.eta, Prog.eta, insAt_mk, -eq_self]); clear e
 ·have hmay := may_at hpl hok q0 q1
  have hd := hd_at hmay
  have hk : (insAt p.l pc).k = 0 := eqI c34
  have hw : opI .andNot .i64 (mwants (insAt p.l pc)) st = 0 := eqI c33
  exact SAt.go hS hpl hok hf.2 (of_decide_eq_true c16) (halt_j hw (.inl hk)) (go11 (nxt_0 hk) hd.1 hd.2.1) rfl (.inr rfl)
 ·have hmay := may_at hpl hok q0 q1
  have hd := hd_at hmay
  exact absurd (of_decide_eq_false c36) (by omega)
 refine ⟨fun c37 => ?_, fun c37 => ?_⟩
 refine ⟨fun c38 => ?_, fun c38 => ?_⟩
 ·have hmay := may_at hpl hok q0 q1
  have hd := hd_at hmay
  exact absurd (of_decide_eq_true c38) (by omega)
 refine ⟨fun c39 => ?_, fun c39 => ?_⟩
 intro e; have k2_i170 : ρ2.i 170 = IntKind.u64.wrap (gt p.l pc 7) := e.trans (by simp only [k2_l1, k2_i86]); (try simp only [e, Ins.eta, Prog.eta, insAt_mk, -eq_self]); clear e
 refine ⟨?_, ?_⟩
 ·exact hfit
 intro e; (try simp only [e, Ins.eta, Prog.eta, insAt_mk, -eq_self]); clear e
 refine ⟨fun c40 => ?_, fun c40 => ?_⟩
 refine ⟨fun c41 => ?_, fun c41 => ?_⟩
 ·have hmay := may_at hpl hok q0 q1
  have hd := hd_at hmay
  exact absurd (of_decide_eq_true c41) (by omega)
 refine ⟨fun c42 => ?_, fun c42 => ?_⟩
 ·have hmay := may_at hpl hok q0 q1
  have hd := hd_at hmay
  have hk : (insAt p.l pc).k = 1 := eqI c37
  have hw : opI .andNot .i64 (mwants (insAt p.l pc)) st = 0 := eqI c33
  have h16 := eqI c40
  exact SAt.go hS hpl hok hf.2 (of_decide_eq_true c16) (halt_l0 hw hk h16) (go11 (nxt_1 hk) hd.1 hd.2.1) rfl (.inr rfl)
 ·have hmay := may_at hpl hok q0 q1
  have hd := hd_at hmay
  exact absurd (of_decide_eq_false c42) (by omega)
 intro e; (try simp only [e, Ins.eta, Prog.eta, insAt_mk, -eq_self]); clear e
 ·rfl
 ·have hmay := may_at hpl hok q0 q1
  have hd := hd_at hmay
  exact absurd (of_decide_eq_false c39) (by omega)
 refine ⟨fun c43 => ?_, fun c43 => ?_⟩
 refine ⟨fun c44 => ?_, fun c44 => ?_⟩
 ·have hmay := may_at hpl hok q0 q1
  have hd := hd_at hmay
  exact absurd (of_decide_eq_true c44) (by omega)
 refine ⟨fun c45 => ?_, fun c45 => ?_⟩
 intro e; have k2_i170 : ρ2.i 170 = IntKind.u64.wrap (gt p.l pc 7) := e.trans (by simp only [k2_l1, k2_i86]); (try simp only [e, Ins.eta, Prog.eta, insAt_mk, -eq_self]); clear e
 refine ⟨fun c46 => ?_, fun c46 => ?_⟩
 ·have hmay := may_at hpl hok q0 q1
  have hd := hd_at hmay
  exact absurd (of_decide_eq_true c46) (by omega)
 refine ⟨fun c47 => ?_, fun c47 => ?_⟩
 have hmay := may_at hpl hok q0 q1
 have hd := hd_at hmay
 have hk : (insAt p.l pc).k = 2 := eqI c43
 obtain ⟨a, ea⟩ : ∃ a, opI .add .u64 (([r0, r1, r2, r3, r4, r5, r6, r7, r8, r9, r10] : List Int).getD (gt p.l pc 5).toNat 0) (IntKind.u64.wrap (gt p.l pc 7)) = a := ⟨_, rfl⟩
 obtain ⟨n, en⟩ : ∃ n, IntKind.i64.wrap (gt p.l pc 3) = n := ⟨_, rfl⟩
 obtain ⟨v, ev⟩ : ∃ v, ([r0, r1, r2, r3, r4, r5, r6, r7, r8, r9, r10] : List Int).getD (gt p.l pc 6).toNat 0 = v := ⟨_, rfl⟩
 have hs : sized n = true := en ▸ sized_wrap hmay (.inr hk)
 have ha : inK .u64 a = true := ea ▸ inK_wrap _ _
 have hn3 := sized_n hs
 have h1 : 1 ≤ n := by omega
 have h8 : n ≤ 8 := by omega
 simp only [k2_l1, k2_i9, k2_i10, k2_i11, k2_i12, k2_i13, k2_i14, k2_i15, k2_i16, k2_i17, k2_i18, k2_i19, k2_i20, k2_i21, k2_i86, k2_l165, k2_l166, k2_l167, k2_l168, k2_i170, ea, en, ev, -eq_self]
 refine ⟨fun ds => ds = [], ?_, ?_⟩
 refine ⟨fun c48 => ?_, fun c48 => ?_⟩
 ·rfl
 refine ⟨fun c49 => ?_, fun c49 => ?_⟩
 ·rfl
 refine ⟨fun c50 => ?_, fun c50 => ?_⟩
 ·rfl
 refine ⟨fun c51 => ?_, fun c51 => ?_⟩
 ·rfl
 refine ⟨fun _ => False, fun _ => 0, absurd hs (by simp [sized, neI c48, neI c49, neI c50, neI c51]), ?_⟩
 intro ρ3 ha3 _ hif
 refine ⟨fun c52 => ?_, fun c52 => ?_⟩
 refine ⟨fun c53 => ?_, fun c53 => ?_⟩
 ·exact hif.elim
 ·exact hif.elim
 refine ⟨fun c54 => ?_, fun c54 => ?_⟩
 refine ⟨fun c55 => ?_, fun c55 => ?_⟩
 intro e; (try simp only [e, Ins.eta, Prog.eta, insAt_mk, -eq_self]); clear e
 ·exact hif.elim
 ·exact hif.elim
 ·exact hif.elim
 intro ρ3 ha3 _ _
 have k3_l1 := kL ha3 k2_l1
 have k3_i9 := kI ha3 k2_i9
 have k3_i10 := kI ha3 k2_i10
 have k3_i11 := kI ha3 k2_i11
 have k3_i12 := kI ha3 k2_i12
 have k3_i13 := kI ha3 k2_i13
 have k3_i14 := kI ha3 k2_i14
 have k3_i15 := kI ha3 k2_i15
 have k3_i16 := kI ha3 k2_i16
 have k3_i17 := kI ha3 k2_i17
 have k3_i18 := kI ha3 k2_i18
 have k3_i19 := kI ha3 k2_i19
 have k3_i20 := kI ha3 k2_i20
 have k3_i21 := kI ha3 k2_i21
 have k3_i86 := kI ha3 k2_i86
 have k3_l165 := kL ha3 k2_l165
 have k3_l166 := kL ha3 k2_l166
 have k3_l167 := kL ha3 k2_l167
 have k3_l168 := kL ha3 k2_l168
 have k3_i170 := kI ha3 k2_i170
 simp only [k3_l1, k3_i9, k3_i10, k3_i11, k3_i12, k3_i13, k3_i14, k3_i15, k3_i16, k3_i17, k3_i18, k3_i19, k3_i20, k3_i21, k3_i86, k3_l165, k3_l166, k3_l167, k3_l168, k3_i170, ea, en, ev, -eq_self]
 refine ⟨fun ds => ds = [], ?_, ?_⟩
 refine ⟨fun ds => ds = [.z (b2i (!inr 1048576 [] a n))], ?_, ?_⟩
 refine ⟨fun c56 => ?_, fun c56 => ?_⟩
 ·exact congrArg (fun z => [Dt.z (b2i z)]) (inr_lo c56)
 refine ⟨fun c57 => ?_, fun c57 => ?_⟩
 ·exact congrArg (fun z => [Dt.z (b2i z)]) (inr_len (l := []) ha (by decide) h1 c56 (by decide) c57)
 ·rw [wrU (a := n) (by omega) (by omega)]
  exact congrArg (fun z => [Dt.z (b2i z)]) (inr_rest (l := []) ha (by decide) h1 h8 c56 (by decide) c57)
 intro ρ4 ha4 _ hi4
 simp only [List.cons.injEq, Dt.z.injEq, Dt.l.injEq, b2i_eq_iff, and_true] at hi4
 have k4_b171 := hi4
 have k4_l1 := kL ha4 k3_l1
 have k4_i9 := kI ha4 k3_i9
 have k4_i10 := kI ha4 k3_i10
 have k4_i11 := kI ha4 k3_i11
 have k4_i12 := kI ha4 k3_i12
 have k4_i13 := kI ha4 k3_i13
 have k4_i14 := kI ha4 k3_i14
 have k4_i15 := kI ha4 k3_i15
 have k4_i16 := kI ha4 k3_i16
 have k4_i17 := kI ha4 k3_i17
 have k4_i18 := kI ha4 k3_i18
 have k4_i19 := kI ha4 k3_i19
 have k4_i20 := kI ha4 k3_i20
 have k4_i21 := kI ha4 k3_i21
 have k4_i86 := kI ha4 k3_i86
 have k4_l165 := kL ha4 k3_l165
 have k4_l166 := kL ha4 k3_l166
 have k4_l167 := kL ha4 k3_l167
 have k4_l168 := kL ha4 k3_l168
 have k4_i170 := kI ha4 k3_i170
 simp only [k4_l1, k4_i9, k4_i10, k4_i11, k4_i12, k4_i13, k4_i14, k4_i15, k4_i16, k4_i17, k4_i18, k4_i19, k4_i20, k4_i21, k4_i86, k4_l165, k4_l166, k4_l167, k4_l168, k4_i170, k4_b171, ea, en, ev, -eq_self]
 refine ⟨fun c58 => ?_, fun c58 => ?_⟩
 ·rfl
 refine ⟨fun c59 => ?_, fun c59 => ?_⟩
 ·exact absurd c58 (by simp [inr_nil h1])
 refine ⟨fun c60 => ?_, fun c60 => ?_⟩
 ·exact absurd c58 (by simp [inr_nil h1])
 refine ⟨fun c61 => ?_, fun c61 => ?_⟩
 ·exact absurd c58 (by simp [inr_nil h1])
 ·exact absurd c58 (by simp [inr_nil h1])
 intro ρ4 ha4 _ _
 have k4_l1 := kL ha4 k3_l1
 have k4_i9 := kI ha4 k3_i9
 have k4_i10 := kI ha4 k3_i10
 have k4_i11 := kI ha4 k3_i11
 have k4_i12 := kI ha4 k3_i12
 have k4_i13 := kI ha4 k3_i13
 have k4_i14 := kI ha4 k3_i14
 have k4_i15 := kI ha4 k3_i15
 have k4_i16 := kI ha4 k3_i16
 have k4_i17 := kI ha4 k3_i17
 have k4_i18 := kI ha4 k3_i18
 have k4_i19 := kI ha4 k3_i19
 have k4_i20 := kI ha4 k3_i20
 have k4_i21 := kI ha4 k3_i21
 have k4_i86 := kI ha4 k3_i86
 have k4_l165 := kL ha4 k3_l165
 have k4_l166 := kL ha4 k3_l166
 have k4_l167 := kL ha4 k3_l167
 have k4_l168 := kL ha4 k3_l168
 have k4_i170 := kI ha4 k3_i170
 simp only [k4_l1, k4_i9, k4_i10, k4_i11, k4_i12, k4_i13, k4_i14, k4_i15, k4_i16, k4_i17, k4_i18, k4_i19, k4_i20, k4_i21, k4_i86, k4_l165, k4_l166, k4_l167, k4_l168, k4_i170, ea, en, ev, -eq_self]
 refine ⟨fun ds => ds = [] ∧ inr 2097152 c1 a n = false, ?_, ?_⟩
 refine ⟨fun ds => ds = [.z (b2i (!inr 2097152 c1 a n))], ?_, ?_⟩
 refine ⟨fun c62 => ?_, fun c62 => ?_⟩
 ·exact congrArg (fun z => [Dt.z (b2i z)]) (inr_lo c62)
 refine ⟨fun c63 => ?_, fun c63 => ?_⟩
 ·exact congrArg (fun z => [Dt.z (b2i z)]) (inr_len (l := c1) ha (by decide) h1 c62 (Nat.le_trans h256 (by decide)) c63)
 ·rw [wrU (a := n) (by omega) (by omega)]
  exact congrArg (fun z => [Dt.z (b2i z)]) (inr_rest (l := c1) ha (by decide) h1 h8 c62 (Nat.le_trans h256 (by decide)) c63)
 intro ρ5 ha5 _ hi5
 simp only [List.cons.injEq, Dt.z.injEq, Dt.l.injEq, b2i_eq_iff, and_true] at hi5
 have k5_b171 := hi5
 have k5_l1 := kL ha5 k4_l1
 have k5_i9 := kI ha5 k4_i9
 have k5_i10 := kI ha5 k4_i10
 have k5_i11 := kI ha5 k4_i11
 have k5_i12 := kI ha5 k4_i12
 have k5_i13 := kI ha5 k4_i13
 have k5_i14 := kI ha5 k4_i14
 have k5_i15 := kI ha5 k4_i15
 have k5_i16 := kI ha5 k4_i16
 have k5_i17 := kI ha5 k4_i17
 have k5_i18 := kI ha5 k4_i18
 have k5_i19 := kI ha5 k4_i19
 have k5_i20 := kI ha5 k4_i20
 have k5_i21 := kI ha5 k4_i21
 have k5_i86 := kI ha5 k4_i86
 have k5_l165 := kL ha5 k4_l165
 have k5_l166 := kL ha5 k4_l166
 have k5_l167 := kL ha5 k4_l167
 have k5_l168 := kL ha5 k4_l168
 have k5_i170 := kI ha5 k4_i170
 simp only [k5_l1, k5_i9, k5_i10, k5_i11, k5_i12, k5_i13, k5_i14, k5_i15, k5_i16, k5_i17, k5_i18, k5_i19, k5_i20, k5_i21, k5_i86, k5_l165, k5_l166, k5_l167, k5_l168, k5_i170, k5_b171, ea, en, ev, -eq_self]
 refine ⟨fun c64 => ?_, fun c64 => ?_⟩
 ·exact ⟨rfl, by simpa using c64⟩
 refine ⟨fun c65 => ?_, fun c65 => ?_⟩
 ·have fr : inr 2097152 c1 a n = true := by simpa using c64
  have W := Win.of fr ha (by decide) (Nat.le_trans h256 (by decide)) h1 h8
  have w1 := W.lo; have w2 := W.hi; have w3 := W.len
  simp only [W.sub, W.cv, W.add] at c65
  exact absurd (of_decide_eq_true c65) (by omega)
 refine ⟨fun c66 => ?_, fun c66 => ?_⟩
 ·have fr : inr 2097152 c1 a n = true := by simpa using c64
  have W := Win.of fr ha (by decide) (Nat.le_trans h256 (by decide)) h1 h8
  have w1 := W.lo; have w2 := W.hi; have w3 := W.len
  simp only [W.sub, W.cv, W.add] at c66
  exact absurd (of_decide_eq_true c66) (by omega)
 refine ⟨fun c67 => ?_, fun c67 => ?_⟩
 ·have fr : inr 2097152 c1 a n = true := by simpa using c64
  have W := Win.of fr ha (by decide) (Nat.le_trans h256 (by decide)) h1 h8
  have w1 := W.lo; have w2 := W.hi; have w3 := W.len
  simp only [W.sub, W.cv, W.add] at c67
  exact absurd (of_decide_eq_true c67) (by omega)
 have fr : inr 2097152 c1 a n = true := by simpa using c64
 have W := Win.of fr ha (by decide) (Nat.le_trans h256 (by decide)) h1 h8
 refine ⟨fun ds => ∃ k : Nat, ds = [.z (k : Int), .l (putL c1 (a - 2097152).toNat v k), .l f1] ∧ k ≤ n.toNat, fun ds => n.toNat - (dI ds 0).toNat, ⟨0, rfl, Nat.zero_le _⟩, ?_⟩
 intro ρ6 ha6 _ hi6
 obtain ⟨k, hds, hk2⟩ := hi6
 simp only [List.cons.injEq, Dt.z.injEq, Dt.l.injEq, b2i_eq_iff, and_true] at hds
 obtain ⟨k6_i172, k6_l173, k6_l174⟩ := hds
 have k6_l1 := kL ha6 k5_l1
 have k6_i9 := kI ha6 k5_i9
 have k6_i10 := kI ha6 k5_i10
 have k6_i11 := kI ha6 k5_i11
 have k6_i12 := kI ha6 k5_i12
 have k6_i13 := kI ha6 k5_i13
 have k6_i14 := kI ha6 k5_i14
 have k6_i15 := kI ha6 k5_i15
 have k6_i16 := kI ha6 k5_i16
 have k6_i17 := kI ha6 k5_i17
 have k6_i18 := kI ha6 k5_i18
 have k6_i19 := kI ha6 k5_i19
 have k6_i20 := kI ha6 k5_i20
 have k6_i21 := kI ha6 k5_i21
 have k6_i86 := kI ha6 k5_i86
 have k6_l165 := kL ha6 k5_l165
 have k6_l166 := kL ha6 k5_l166
 have k6_l167 := kL ha6 k5_l167
 have k6_l168 := kL ha6 k5_l168
 have k6_i170 := kI ha6 k5_i170
 simp only [k6_l1, k6_i9, k6_i10, k6_i11, k6_i12, k6_i13, k6_i14, k6_i15, k6_i16, k6_i17, k6_i18, k6_i19, k6_i20, k6_i21, k6_i86, k6_l165, k6_l166, k6_l167, k6_l168, k6_i170, k6_i172, k6_l173, k6_l174, ea, en, ev, W.sub, W.cv, W.add, W.win, W.len, -eq_self]
 refine ⟨fun c68 => ?_, fun c68 => ?_⟩
 refine ⟨fun c69 => ?_, fun c69 => ?_⟩
 ·have hk3 : k < n.toNat := Int.ofNat_lt.1 (of_decide_eq_true c68)
  have w1 := W.lo; have w2 := W.hi; have w3 := W.len
  rw [mulE (by omega)] at c69
  exact absurd (of_decide_eq_true c69) (by omega)
 refine ⟨fun c70 => ?_, fun c70 => ?_⟩
 ·have hk3 : k < n.toNat := Int.ofNat_lt.1 (of_decide_eq_true c68)
  have w1 := W.lo; have w2 := W.hi; have w3 := W.len
  rw [putL_len] at c70
  exact absurd (of_decide_eq_true c70) (by omega)
 refine ⟨fun c71 => ?_, fun c71 => ?_⟩
 ·have hk3 : k < n.toNat := Int.ofNat_lt.1 (of_decide_eq_true c68)
  have w1 := W.lo; have w2 := W.hi; have w3 := W.len
  exact absurd (of_decide_eq_true c71) (by omega)
 refine ⟨fun c72 => ?_, fun c72 => ?_⟩
 refine ⟨fun c73 => ?_, fun c73 => ?_⟩
 ·have hk3 : k < n.toNat := Int.ofNat_lt.1 (of_decide_eq_true c68)
  have w1 := W.lo; have w2 := W.hi; have w3 := W.len
  rw [(W.byte (Nat.le_trans h256 (by decide)) hk3).1] at c73
  exact absurd (of_decide_eq_true c73) (by omega)
 refine ⟨fun c74 => ?_, fun c74 => ?_⟩
 ·have hk3 : k < n.toNat := Int.ofNat_lt.1 (of_decide_eq_true c68)
  rw [putS W (Nat.le_trans h256 (by decide)) v hk3, addO hk3 (Nat.le_trans (by omega : n.toNat ≤ 8) (by decide))]
  exact ⟨⟨k + 1, rfl, hk3⟩, by show n.toNat - (((k + 1 : Nat) : Int)).toNat < n.toNat - ((k : Int)).toNat; omega⟩
 ·have hk3 : k < n.toNat := Int.ofNat_lt.1 (of_decide_eq_true c68)
  have w1 := W.lo; have w2 := W.hi; have w3 := W.len
  rw [(W.byte (Nat.le_trans h256 (by decide)) hk3).1, putL_len] at c74
  exact absurd (of_decide_eq_false c74) (by omega)
 ·have hk3 : k < n.toNat := Int.ofNat_lt.1 (of_decide_eq_true c68)
  have w1 := W.lo; have w2 := W.hi; have w3 := W.len
  simp only [List.length_drop, List.length_take, putL_len] at c72
  exact absurd (of_decide_eq_false c72) (by omega)
 refine ⟨fun c75 => ?_, fun c75 => ?_⟩
 refine ⟨fun c76 => ?_, fun c76 => ?_⟩
 ·have hk : (insAt p.l pc).k = 2 := eqI c43
  have hw : opI .andNot .i64 (mwants (insAt p.l pc)) st = 0 := eqI c33
  obtain rfl : k = n.toNat := by have := of_decide_eq_false c68; omega
  have g2 : inr 3145728 f1 a n = false := by
   have := W.hi; have := W.lo; unfold inr; rw [decide_eq_false (by omega)]; rfl
  have eC : stC ⟨[r0, r1, r2, r3, r4, r5, r6, r7, r8, r9, r10], st, pc, a1, t1, c1, f1⟩ a n v = putL c1 (a - 2097152).toNat v n.toNat := if_pos fr
  have eF : stF ⟨[r0, r1, r2, r3, r4, r5, r6, r7, r8, r9, r10], st, pc, a1, t1, c1, f1⟩ a n v = f1 := if_neg (by rw [g2]; decide)
  have eO : stOk ⟨[r0, r1, r2, r3, r4, r5, r6, r7, r8, r9, r10], st, pc, a1, t1, c1, f1⟩ a n = true := by unfold stOk; rw [show inr 2097152 c1 a n = true from fr]; rfl
  exact SAt.go hS hpl hok hf.2 (of_decide_eq_true c16) (halt_s0 hw hk ea en eO) (by rw [nxt_2 (m := ⟨[r0, r1, r2, r3, r4, r5, r6, r7, r8, r9, r10], st, pc, a1, t1, c1, f1⟩) hk ea en ev, eC, eF]; rfl) rfl (.inl hk)
 ·exact absurd (show _ = (64 : Int) by (try simp only [putL_len]); omega) (neI c76)
 ·exact absurd (of_decide_eq_false c75) (by (try simp only [putL_len]); omega)
 intro ρ5 ha5 _ hi5
 obtain ⟨_, g1⟩ := hi5
 have k5_l1 := kL ha5 k4_l1
 have k5_i9 := kI ha5 k4_i9
 have k5_i10 := kI ha5 k4_i10
 have k5_i11 := kI ha5 k4_i11
 have k5_i12 := kI ha5 k4_i12
 have k5_i13 := kI ha5 k4_i13
 have k5_i14 := kI ha5 k4_i14
 have k5_i15 := kI ha5 k4_i15
 have k5_i16 := kI ha5 k4_i16
 have k5_i17 := kI ha5 k4_i17
 have k5_i18 := kI ha5 k4_i18
 have k5_i19 := kI ha5 k4_i19
 have k5_i20 := kI ha5 k4_i20
 have k5_i21 := kI ha5 k4_i21
 have k5_i86 := kI ha5 k4_i86
 have k5_l165 := kL ha5 k4_l165
 have k5_l166 := kL ha5 k4_l166
 have k5_l167 := kL ha5 k4_l167
 have k5_l168 := kL ha5 k4_l168
 have k5_i170 := kI ha5 k4_i170
 simp only [k5_l1, k5_i9, k5_i10, k5_i11, k5_i12, k5_i13, k5_i14, k5_i15, k5_i16, k5_i17, k5_i18, k5_i19, k5_i20, k5_i21, k5_i86, k5_l165, k5_l166, k5_l167, k5_l168, k5_i170, ea, en, ev, -eq_self]
 refine ⟨fun ds => ds = [] ∧ inr 3145728 f1 a n = false, ?_, ?_⟩
 refine ⟨fun ds => ds = [.z (b2i (!inr 3145728 f1 a n))], ?_, ?_⟩
 refine ⟨fun c77 => ?_, fun c77 => ?_⟩
 ·exact congrArg (fun z => [Dt.z (b2i z)]) (inr_lo c77)
 refine ⟨fun c78 => ?_, fun c78 => ?_⟩
 ·exact congrArg (fun z => [Dt.z (b2i z)]) (inr_len (l := f1) ha (by decide) h1 c77 (by rw [q2]; decide) c78)
 ·rw [wrU (a := n) (by omega) (by omega)]
  exact congrArg (fun z => [Dt.z (b2i z)]) (inr_rest (l := f1) ha (by decide) h1 h8 c77 (by rw [q2]; decide) c78)
 intro ρ6 ha6 _ hi6
 simp only [List.cons.injEq, Dt.z.injEq, Dt.l.injEq, b2i_eq_iff, and_true] at hi6
 have k6_b171 := hi6
 have k6_l1 := kL ha6 k5_l1
 have k6_i9 := kI ha6 k5_i9
 have k6_i10 := kI ha6 k5_i10
 have k6_i11 := kI ha6 k5_i11
 have k6_i12 := kI ha6 k5_i12
 have k6_i13 := kI ha6 k5_i13
 have k6_i14 := kI ha6 k5_i14
 have k6_i15 := kI ha6 k5_i15
 have k6_i16 := kI ha6 k5_i16
 have k6_i17 := kI ha6 k5_i17
 have k6_i18 := kI ha6 k5_i18
 have k6_i19 := kI ha6 k5_i19
 have k6_i20 := kI ha6 k5_i20
 have k6_i21 := kI ha6 k5_i21
 have k6_i86 := kI ha6 k5_i86
 have k6_l165 := kL ha6 k5_l165
 have k6_l166 := kL ha6 k5_l166
 have k6_l167 := kL ha6 k5_l167
 have k6_l168 := kL ha6 k5_l168
 have k6_i170 := kI ha6 k5_i170
 simp only [k6_l1, k6_i9, k6_i10, k6_i11, k6_i12, k6_i13, k6_i14, k6_i15, k6_i16, k6_i17, k6_i18, k6_i19, k6_i20, k6_i21, k6_i86, k6_l165, k6_l166, k6_l167, k6_l168, k6_i170, k6_b171, ea, en, ev, -eq_self]
 refine ⟨fun c79 => ?_, fun c79 => ?_⟩
 ·exact ⟨rfl, by simpa using c79⟩
 refine ⟨fun c80 => ?_, fun c80 => ?_⟩
 ·have fr : inr 3145728 f1 a n = true := by simpa using c79
  have W := Win.of fr ha (by decide) (by rw [q2]; decide) h1 h8
  have w1 := W.lo; have w2 := W.hi; have w3 := W.len
  simp only [W.sub, W.cv, W.add] at c80
  exact absurd (of_decide_eq_true c80) (by omega)
 refine ⟨fun c81 => ?_, fun c81 => ?_⟩
 ·have fr : inr 3145728 f1 a n = true := by simpa using c79
  have W := Win.of fr ha (by decide) (by rw [q2]; decide) h1 h8
  have w1 := W.lo; have w2 := W.hi; have w3 := W.len
  simp only [W.sub, W.cv, W.add] at c81
  exact absurd (of_decide_eq_true c81) (by omega)
 refine ⟨fun c82 => ?_, fun c82 => ?_⟩
 ·have fr : inr 3145728 f1 a n = true := by simpa using c79
  have W := Win.of fr ha (by decide) (by rw [q2]; decide) h1 h8
  have w1 := W.lo; have w2 := W.hi; have w3 := W.len
  simp only [W.sub, W.cv, W.add] at c82
  exact absurd (of_decide_eq_true c82) (by omega)
 have fr : inr 3145728 f1 a n = true := by simpa using c79
 have W := Win.of fr ha (by decide) (by rw [q2]; decide) h1 h8
 refine ⟨fun ds => ∃ k : Nat, ds = [.z (k : Int), .l c1, .l (putL f1 (a - 3145728).toNat v k)] ∧ k ≤ n.toNat, fun ds => n.toNat - (dI ds 0).toNat, ⟨0, rfl, Nat.zero_le _⟩, ?_⟩
 intro ρ7 ha7 _ hi7
 obtain ⟨k, hds, hk2⟩ := hi7
 simp only [List.cons.injEq, Dt.z.injEq, Dt.l.injEq, b2i_eq_iff, and_true] at hds
 obtain ⟨k7_i172, k7_l173, k7_l174⟩ := hds
 have k7_l1 := kL ha7 k6_l1
 have k7_i9 := kI ha7 k6_i9
 have k7_i10 := kI ha7 k6_i10
 have k7_i11 := kI ha7 k6_i11
 have k7_i12 := kI ha7 k6_i12
 have k7_i13 := kI ha7 k6_i13
 have k7_i14 := kI ha7 k6_i14
 have k7_i15 := kI ha7 k6_i15
 have k7_i16 := kI ha7 k6_i16
 have k7_i17 := kI ha7 k6_i17
 have k7_i18 := kI ha7 k6_i18
 have k7_i19 := kI ha7 k6_i19
 have k7_i20 := kI ha7 k6_i20
 have k7_i21 := kI ha7 k6_i21
 have k7_i86 := kI ha7 k6_i86
 have k7_l165 := kL ha7 k6_l165
 have k7_l166 := kL ha7 k6_l166
 have k7_l167 := kL ha7 k6_l167
 have k7_l168 := kL ha7 k6_l168
 have k7_i170 := kI ha7 k6_i170
 simp only [k7_l1, k7_i9, k7_i10, k7_i11, k7_i12, k7_i13, k7_i14, k7_i15, k7_i16, k7_i17, k7_i18, k7_i19, k7_i20, k7_i21, k7_i86, k7_l165, k7_l166, k7_l167, k7_l168, k7_i170, k7_i172, k7_l173, k7_l174, ea, en, ev, W.sub, W.cv, W.add, W.win, W.len, -eq_self]
 refine ⟨fun c83 => ?_, fun c83 => ?_⟩
 refine ⟨fun c84 => ?_, fun c84 => ?_⟩
 ·have hk3 : k < n.toNat := Int.ofNat_lt.1 (of_decide_eq_true c83)
  have w1 := W.lo; have w2 := W.hi; have w3 := W.len
  rw [mulE (by omega)] at c84
  exact absurd (of_decide_eq_true c84) (by omega)
 refine ⟨fun c85 => ?_, fun c85 => ?_⟩
 ·have hk3 : k < n.toNat := Int.ofNat_lt.1 (of_decide_eq_true c83)
  have w1 := W.lo; have w2 := W.hi; have w3 := W.len
  rw [putL_len] at c85
  exact absurd (of_decide_eq_true c85) (by omega)
 refine ⟨fun c86 => ?_, fun c86 => ?_⟩
 ·have hk3 : k < n.toNat := Int.ofNat_lt.1 (of_decide_eq_true c83)
  have w1 := W.lo; have w2 := W.hi; have w3 := W.len
  exact absurd (of_decide_eq_true c86) (by omega)
 refine ⟨fun c87 => ?_, fun c87 => ?_⟩
 refine ⟨fun c88 => ?_, fun c88 => ?_⟩
 ·have hk3 : k < n.toNat := Int.ofNat_lt.1 (of_decide_eq_true c83)
  have w1 := W.lo; have w2 := W.hi; have w3 := W.len
  rw [(W.byte (by rw [q2]; decide) hk3).1] at c88
  exact absurd (of_decide_eq_true c88) (by omega)
 refine ⟨fun c89 => ?_, fun c89 => ?_⟩
 ·have hk3 : k < n.toNat := Int.ofNat_lt.1 (of_decide_eq_true c83)
  rw [putS W (by rw [q2]; decide) v hk3, addO hk3 (Nat.le_trans (by omega : n.toNat ≤ 8) (by decide))]
  exact ⟨⟨k + 1, rfl, hk3⟩, by show n.toNat - (((k + 1 : Nat) : Int)).toNat < n.toNat - ((k : Int)).toNat; omega⟩
 ·have hk3 : k < n.toNat := Int.ofNat_lt.1 (of_decide_eq_true c83)
  have w1 := W.lo; have w2 := W.hi; have w3 := W.len
  rw [(W.byte (by rw [q2]; decide) hk3).1, putL_len] at c89
  exact absurd (of_decide_eq_false c89) (by omega)
 ·have hk3 : k < n.toNat := Int.ofNat_lt.1 (of_decide_eq_true c83)
  have w1 := W.lo; have w2 := W.hi; have w3 := W.len
  simp only [List.length_drop, List.length_take, putL_len] at c87
  exact absurd (of_decide_eq_false c87) (by omega)
 refine ⟨fun c90 => ?_, fun c90 => ?_⟩
 refine ⟨fun c91 => ?_, fun c91 => ?_⟩
 ·have hk : (insAt p.l pc).k = 2 := eqI c43
  have hw : opI .andNot .i64 (mwants (insAt p.l pc)) st = 0 := eqI c33
  obtain rfl : k = n.toNat := by have := of_decide_eq_false c83; omega
  have eC : stC ⟨[r0, r1, r2, r3, r4, r5, r6, r7, r8, r9, r10], st, pc, a1, t1, c1, f1⟩ a n v = c1 := if_neg (by rw [g1]; decide)
  have eF : stF ⟨[r0, r1, r2, r3, r4, r5, r6, r7, r8, r9, r10], st, pc, a1, t1, c1, f1⟩ a n v = putL f1 (a - 3145728).toNat v n.toNat := if_pos fr
  have eO : stOk ⟨[r0, r1, r2, r3, r4, r5, r6, r7, r8, r9, r10], st, pc, a1, t1, c1, f1⟩ a n = true := by unfold stOk; rw [show inr 3145728 f1 a n = true from fr, Bool.or_true]
  exact SAt.go hS hpl hok hf.2 (of_decide_eq_true c16) (halt_s0 hw hk ea en eO) (by rw [nxt_2 (m := ⟨[r0, r1, r2, r3, r4, r5, r6, r7, r8, r9, r10], st, pc, a1, t1, c1, f1⟩) hk ea en ev, eC, eF]; rfl) rfl (.inl hk)
 ·exact absurd (show _ = (64 : Int) by (try simp only [putL_len]); omega) (neI c91)
 ·exact absurd (of_decide_eq_false c90) (by (try simp only [putL_len]); omega)
 intro ρ6 ha6 _ hi6
 obtain ⟨_, g2⟩ := hi6
 have k6_l1 := kL ha6 k5_l1
 have k6_i9 := kI ha6 k5_i9
 have k6_i10 := kI ha6 k5_i10
 have k6_i11 := kI ha6 k5_i11
 have k6_i12 := kI ha6 k5_i12
 have k6_i13 := kI ha6 k5_i13
 have k6_i14 := kI ha6 k5_i14
 have k6_i15 := kI ha6 k5_i15
 have k6_i16 := kI ha6 k5_i16
 have k6_i17 := kI ha6 k5_i17
 have k6_i18 := kI ha6 k5_i18
 have k6_i19 := kI ha6 k5_i19
 have k6_i20 := kI ha6 k5_i20
 have k6_i21 := kI ha6 k5_i21
 have k6_i86 := kI ha6 k5_i86
 have k6_l165 := kL ha6 k5_l165
 have k6_l166 := kL ha6 k5_l166
 have k6_l167 := kL ha6 k5_l167
 have k6_l168 := kL ha6 k5_l168
 have k6_i170 := kI ha6 k5_i170
 simp only [k6_l1, k6_i9, k6_i10, k6_i11, k6_i12, k6_i13, k6_i14, k6_i15, k6_i16, k6_i17, k6_i18, k6_i19, k6_i20, k6_i21, k6_i86, k6_l165, k6_l166, k6_l167, k6_l168, k6_i170, ea, en, ev, -eq_self]
 refine ⟨fun ds => ds = [] ∧ inr 4194304 [] a n = false, ?_, ?_⟩
 refine ⟨fun ds => ds = [.z (b2i (!inr 4194304 [] a n))], ?_, ?_⟩
 refine ⟨fun c92 => ?_, fun c92 => ?_⟩
 ·exact congrArg (fun z => [Dt.z (b2i z)]) (inr_lo c92)
 refine ⟨fun c93 => ?_, fun c93 => ?_⟩
 ·exact congrArg (fun z => [Dt.z (b2i z)]) (inr_len (l := []) ha (by decide) h1 c92 (by decide) c93)
 ·rw [wrU (a := n) (by omega) (by omega)]
  exact congrArg (fun z => [Dt.z (b2i z)]) (inr_rest (l := []) ha (by decide) h1 h8 c92 (by decide) c93)
 intro ρ7 ha7 _ hi7
 simp only [List.cons.injEq, Dt.z.injEq, Dt.l.injEq, b2i_eq_iff, and_true] at hi7
 have k7_b171 := hi7
 have k7_l1 := kL ha7 k6_l1
 have k7_i9 := kI ha7 k6_i9
 have k7_i10 := kI ha7 k6_i10
 have k7_i11 := kI ha7 k6_i11
 have k7_i12 := kI ha7 k6_i12
 have k7_i13 := kI ha7 k6_i13
 have k7_i14 := kI ha7 k6_i14
 have k7_i15 := kI ha7 k6_i15
 have k7_i16 := kI ha7 k6_i16
 have k7_i17 := kI ha7 k6_i17
 have k7_i18 := kI ha7 k6_i18
 have k7_i19 := kI ha7 k6_i19
 have k7_i20 := kI ha7 k6_i20
 have k7_i21 := kI ha7 k6_i21
 have k7_i86 := kI ha7 k6_i86
 have k7_l165 := kL ha7 k6_l165
 have k7_l166 := kL ha7 k6_l166
 have k7_l167 := kL ha7 k6_l167
 have k7_l168 := kL ha7 k6_l168
 have k7_i170 := kI ha7 k6_i170
 simp only [k7_l1, k7_i9, k7_i10, k7_i11, k7_i12, k7_i13, k7_i14, k7_i15, k7_i16, k7_i17, k7_i18, k7_i19, k7_i20, k7_i21, k7_i86, k7_l165, k7_l166, k7_l167, k7_l168, k7_i170, k7_b171, ea, en, ev, -eq_self]
 refine ⟨fun c94 => ?_, fun c94 => ?_⟩
 ·exact ⟨rfl, by simpa using c94⟩
 ·exact absurd c94 (by simp [inr_nil h1])
 intro ρ7 ha7 _ hi7
 obtain ⟨_, g3⟩ := hi7
 have k7_l1 := kL ha7 k6_l1
 have k7_i9 := kI ha7 k6_i9
 have k7_i10 := kI ha7 k6_i10
 have k7_i11 := kI ha7 k6_i11
 have k7_i12 := kI ha7 k6_i12
 have k7_i13 := kI ha7 k6_i13
 have k7_i14 := kI ha7 k6_i14
 have k7_i15 := kI ha7 k6_i15
 have k7_i16 := kI ha7 k6_i16
 have k7_i17 := kI ha7 k6_i17
 have k7_i18 := kI ha7 k6_i18
 have k7_i19 := kI ha7 k6_i19
 have k7_i20 := kI ha7 k6_i20
 have k7_i21 := kI ha7 k6_i21
 have k7_i86 := kI ha7 k6_i86
 have k7_l165 := kL ha7 k6_l165
 have k7_l166 := kL ha7 k6_l166
 have k7_l167 := kL ha7 k6_l167
 have k7_l168 := kL ha7 k6_l168
 have k7_i170 := kI ha7 k6_i170
 simp only [k7_l1, k7_i9, k7_i10, k7_i11, k7_i12, k7_i13, k7_i14, k7_i15, k7_i16, k7_i17, k7_i18, k7_i19, k7_i20, k7_i21, k7_i86, k7_l165, k7_l166, k7_l167, k7_l168, k7_i170, ea, en, ev, -eq_self]
 refine ⟨fun ds => ds = [.z 0, .l c1, .l f1], fun _ => 0, rfl, ?_⟩
 intro ρ8 ha8 _ hi8
 simp only [List.cons.injEq, Dt.z.injEq, Dt.l.injEq, b2i_eq_iff, and_true] at hi8
 obtain ⟨k8_i171, k8_l172, k8_l173⟩ := hi8
 have k8_l1 := kL ha8 k7_l1
 have k8_i9 := kI ha8 k7_i9
 have k8_i10 := kI ha8 k7_i10
 have k8_i11 := kI ha8 k7_i11
 have k8_i12 := kI ha8 k7_i12
 have k8_i13 := kI ha8 k7_i13
 have k8_i14 := kI ha8 k7_i14
 have k8_i15 := kI ha8 k7_i15
 have k8_i16 := kI ha8 k7_i16
 have k8_i17 := kI ha8 k7_i17
 have k8_i18 := kI ha8 k7_i18
 have k8_i19 := kI ha8 k7_i19
 have k8_i20 := kI ha8 k7_i20
 have k8_i21 := kI ha8 k7_i21
 have k8_i86 := kI ha8 k7_i86
 have k8_l165 := kL ha8 k7_l165
 have k8_l166 := kL ha8 k7_l166
 have k8_l167 := kL ha8 k7_l167
 have k8_l168 := kL ha8 k7_l168
 have k8_i170 := kI ha8 k7_i170
 simp only [k8_l1, k8_i9, k8_i10, k8_i11, k8_i12, k8_i13, k8_i14, k8_i15, k8_i16, k8_i17, k8_i18, k8_i19, k8_i20, k8_i21, k8_i86, k8_l165, k8_l166, k8_l167, k8_l168, k8_i170, k8_i171, k8_l172, k8_l173, ea, en, ev, -eq_self]
 refine ⟨fun c95 => ?_, fun c95 => ?_⟩
 refine ⟨fun c96 => ?_, fun c96 => ?_⟩
 ·exact absurd (of_decide_eq_true c95) (by decide)
 ·exact absurd (of_decide_eq_true c95) (by decide)
 refine ⟨fun c97 => ?_, fun c97 => ?_⟩
 refine ⟨fun c98 => ?_, fun c98 => ?_⟩
 intro e; (try simp only [e, Ins.eta, Prog.eta, insAt_mk, -eq_self]); clear e
 ·rfl
 ·exact absurd (show _ = (64 : Int) by omega) (neI c98)
 ·exact absurd (of_decide_eq_false c97) (by omega)
 ·have hmay := may_at hpl hok q0 q1
  have hd := hd_at hmay
  exact absurd (of_decide_eq_false c47) (by omega)
 ·have hmay := may_at hpl hok q0 q1
  have hd := hd_at hmay
  exact absurd (of_decide_eq_false c45) (by omega)
 refine ⟨fun c99 => ?_, fun c99 => ?_⟩
 refine ⟨fun c100 => ?_, fun c100 => ?_⟩
 ·have hmay := may_at hpl hok q0 q1
  have hd := hd_at hmay
  exact absurd (of_decide_eq_true c100) (by omega)
 refine ⟨fun c101 => ?_, fun c101 => ?_⟩
 refine ⟨?_, ?_⟩
 ·exact fun _ => (by have hd := imay_d (may_at hpl hok hR.pc0 hR.pc1); exact ⟨hd.2.2.1, hd.2.2.2.1⟩)
 intro e; (try simp only [e, Ins.eta, Prog.eta, insAt_mk, -eq_self]); clear e
 intro e; (try simp only [e, Ins.eta, Prog.eta, insAt_mk, -eq_self]); clear e
 refine ⟨fun c102 => ?_, fun c102 => ?_⟩
 intro e; (try simp only [e, Ins.eta, Prog.eta, insAt_mk, -eq_self]); clear e
 ·have hk : (insAt p.l pc).k = 3 := eqI c99
  have hw : opI .andNot .i64 (mwants (insAt p.l pc)) st = 0 := eqI c33
  exact SAt.go hS hpl hok hf.2 (of_decide_eq_true c16) (halt_j hw (.inr (.inl hk))) ((nxt_3t (m := ⟨[r0, r1, r2, r3, r4, r5, r6, r7, r8, r9, r10], st, pc, a1, t1, c1, f1⟩) hk c102).symm) rfl (.inr rfl)
 ·have hk : (insAt p.l pc).k = 3 := eqI c99
  have hw : opI .andNot .i64 (mwants (insAt p.l pc)) st = 0 := eqI c33
  exact SAt.go hS hpl hok hf.2 (of_decide_eq_true c16) (halt_j hw (.inr (.inl hk))) ((nxt_3f (m := ⟨[r0, r1, r2, r3, r4, r5, r6, r7, r8, r9, r10], st, pc, a1, t1, c1, f1⟩) hk c102).symm) rfl (.inr rfl)
 ·have hmay := may_at hpl hok q0 q1
  have hd := hd_at hmay
  exact absurd (of_decide_eq_false c101) (by omega)
 refine ⟨fun c103 => ?_, fun c103 => ?_⟩
 intro e; (try simp only [e, Ins.eta, Prog.eta, insAt_mk, -eq_self]); clear e
 ·have hk : (insAt p.l pc).k = 4 := eqI c103
  have hw : opI .andNot .i64 (mwants (insAt p.l pc)) st = 0 := eqI c33
  exact SAt.go hS hpl hok hf.2 (of_decide_eq_true c16) (halt_j hw (.inr (.inr hk))) ((nxt_4 (m := ⟨[r0, r1, r2, r3, r4, r5, r6, r7, r8, r9, r10], st, pc, a1, t1, c1, f1⟩) hk).symm) rfl (.inr rfl)
 refine ⟨fun c104 => ?_, fun c104 => ?_⟩
 refine ⟨fun c105 => ?_, fun c105 => ?_⟩
 intro e; (try simp only [e, Ins.eta, Prog.eta, insAt_mk, -eq_self]); clear e
 ·rfl
 intro e; (try simp only [e, Ins.eta, Prog.eta, insAt_mk, -eq_self]); clear e
 refine ⟨fun c106 => ?_, fun c106 => ?_⟩
 ·have z := iargs_bd (gt p.l pc 8)
  rw [show opI .add .i64 1 (iargs (gt p.l pc 8)) = 1 + iargs (gt p.l pc 8) from wrI (by omega) (by omega)] at c106
  exact absurd (of_decide_eq_true c106) (by omega)
 refine ⟨fun c107 => ?_, fun c107 => ?_⟩
 ·have z := iargs_bd (gt p.l pc 8)
  rw [show opI .add .i64 1 (iargs (gt p.l pc 8)) = 1 + iargs (gt p.l pc 8) from wrI (by omega) (by omega)] at c107
  exact absurd (of_decide_eq_true c107) (by omega)
 refine ⟨fun c108 => ?_, fun c108 => ?_⟩
 refine ⟨fun c109 => ?_, fun c109 => ?_⟩
 ·have z := iargs_bd (gt p.l pc 8)
  rw [show opI .add .i64 1 (iargs (gt p.l pc 8)) = 1 + iargs (gt p.l pc 8) from wrI (by omega) (by omega), List.length_drop, List.length_take] at c109
  exact absurd (of_decide_eq_true c109) (by simp only [Int.toNat_one]; omega)
 refine ⟨fun c110 => ?_, fun c110 => ?_⟩
 refine ⟨fun c111 => ?_, fun c111 => ?_⟩
 ·exact absurd (of_decide_eq_true c111) (by have := of_decide_eq_true c108; omega)
 ·have hk : (insAt p.l pc).k = 5 := eqI c104
  have hw : opI .andNot .i64 (mwants (insAt p.l pc)) st = 0 := eqI c33
  exact SAt.go hS hpl hok hf.2 (of_decide_eq_true c16) (halt_c0 hw hk (show a1.length ≠ 0 by have := neI c105; omega)) (by rw [nxt_5 hk]; rfl) rfl (.inr rfl)
 ·exact absurd (of_decide_eq_false c110) (by omega)
 ·exact absurd (of_decide_eq_false c108) (by have := neI c105; omega)
 refine ⟨fun c112 => ?_, fun c112 => ?_⟩
 intro e; (try simp only [e, Ins.eta, Prog.eta, insAt_mk, -eq_self]); clear e
 ·rfl
 ·have hmay := may_at hpl hok q0 q1
  have hd := hd_at hmay
  have n0 := neI c34; have n1 := neI c37; have n2 := neI c43; have n3 := neI c99; have n4 := neI c103; have n5 := neI c104; have n6 := neI c112; omega
 intro e; (try simp only [e, Ins.eta, Prog.eta, insAt_mk, -eq_self]); clear e
 ·rfl
 ·exact absurd q1 (of_decide_eq_false c18)
 intro e; (try simp only [e, Ins.eta, Prog.eta, insAt_mk, -eq_self]); clear e
 ·rfl
 ·exact absurd (of_decide_eq_false c15) (by have := of_decide_eq_false c14; omega)
 intro e; (try simp only [e, Ins.eta, Prog.eta, insAt_mk, -eq_self]); clear e
 ·rfl
 intro e; (try simp only [e, Ins.eta, Prog.eta, insAt_mk, -eq_self]); clear e
 ·rfl
 intro e; (try simp only [e, Ins.eta, Prog.eta, insAt_mk, -eq_self]); clear e
 ·rfl
theorem sC_lstays (xs : List Dt) (vals : List Value) (w : World) (hw : shRel w [.agg kProg, .one (.sl [some .u8] 5), .one (.sl [some .u64] 30), .one (.int .i64)] xs vals) : Calls Try.prog 6 vals.toArray w fun e w' => ∃ v, e = .returned v ∧ RetOk [.one .bool] false w w' (sF_lstays xs) v :=
 (fun_calls (by kernel_rfl) tysok_MoT (smc (sK_mnum rfl) (smc (sK_msec rfl rfl) (smc (sK_mctx rfl rfl) (smc (sK_icheck rfl rfl) (smc (sK_itgt rfl) (smc (sK_iargs rfl) (smc (sK_bits rfl) (smc (sK_holds rfl) (smc (sK_mread rfl rfl) (smc (sK_mwants rfl rfl) (smc (sK_lwakes rfl) (smc (sK_jcheck rfl rfl) sm0)))))))))))) Try.func6 (fnc Try.func38 (fnc Try.func58 (fnc Try.func59 (fnc Try.func60 (fnc Try.func61 (fnc Try.func62 (fnc Try.func63 (fnc Try.func64 (fnc Try.func36 (fnc Try.func88 (fnc Try.func105 (fnc Try.func78 (fnc Try.func39 (fnc Try.func57 (fnc Try.func77 (fnc Try.func23 (fnc Try.func35 (fnc Try.func24 (fnc Try.func9 (fnc Try.func17 (fnc Try.func32 (fnc Try.func37 fn0)))))))))))))))))))))) sR_lstays (pre := fun _ => True) (fun x0 gx0 x1 gx1 x2 gx2 x3 gx3 x4 gx4 hp ρ g => sX_lstays ⟨x0, x1⟩ ⟨gx0, gx1⟩ x2 gx2 x3 gx3 x4 gx4 ρ g) xs vals w hw trivial).2
set_option maxRecDepth 100000 in
set_option maxHeartbeats 8000000 in
theorem law_ModelStays {H : Type} {enc : TypeId × Value → H} {W : World} {r : Reach} {b0 : Nat} (v0 : Value) (k0 : Value.okWide Try.prog W r b0 24 v0) (d0 : DataW H) (p0 : List MemPlace) (h0 : DataW.Trod enc Try.prog W 0 (fun _ => true) true 24 v0 d0 p0) (_ : ∀ x ∈ p0, x.block < W.heap.size) (v1 : Value) (k1 : Value.okWide Try.prog W r b0 25 v1) (d1 : DataW H) (p1 : List MemPlace) (h1 : DataW.Trod enc Try.prog W 0 (fun _ => true) true 25 v1 d1 p1) (_ : ∀ x ∈ p1, x.block < W.heap.size) (v2 : Value) (k2 : Value.okWide Try.prog W r b0 26 v2) (d2 : DataW H) (p2 : List MemPlace) (h2 : DataW.Trod enc Try.prog W 0 (fun _ => true) true 26 v2 d2 p2) (_ : ∀ x ∈ p2, x.block < W.heap.size) (a3 : Int) (w3 : (Lit.int .i64 a3).wf = true) :
  Calls Try.prog 6 #[v0, v1, v2, .int .i64 a3] W fun e W' => e = .returned (.bool true) ∧ Below W.heap.size W W' := by
 obtain ⟨a0, q0, s0, rfl, w0, n0, m0, o0, l0⟩ := Prog.of_arg k0 h0
 obtain ⟨q1, s1, rfl, n1, m1, o1, l1⟩ := sl_of_arg rwU8 (by decide) Try.underlying25 k1 h1
 obtain ⟨q2, s2, rfl, n2, m2, o2, l2⟩ := sl_of_arg rwU64 (by decide) Try.underlying26 k2 h2
 refine (sC_lstays (.z a0 :: ( .l q0 :: ( .l q1 :: ( .l q2 :: ( .z a3 :: ([])))))) _ W ⟨_, _, _, rfl, ⟨_, _, _, rfl, ⟨_, rfl, rfl, w0⟩, ⟨_, _, _, rfl, ⟨_, _, rfl, rfl, n0, m0, o0, l0⟩, ⟨rfl, rfl⟩⟩⟩, ⟨_, _, _, rfl, ⟨_, _, rfl, rfl, n1, m1, o1, l1⟩, ⟨_, _, _, rfl, ⟨_, _, rfl, rfl, n2, m2, o2, l2⟩, ⟨_, _, _, rfl, ⟨_, rfl, rfl, (inK_of_wf w3)⟩, ⟨rfl, rfl⟩⟩⟩⟩⟩).mono fun e W' ⟨v, he, hr⟩ => ?_
 have hv : v = .bool true := RetOk.says hr
 rw [he, hv]
 exact ⟨rfl, hr.ext⟩
end Go.Proofs.Ytghiofgomcihcaa
