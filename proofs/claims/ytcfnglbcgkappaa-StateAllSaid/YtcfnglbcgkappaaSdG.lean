/- Contracts of latheref10, by the symbolic run. -/
import Derived.Test.YtcfnglbcgkappaaSdF
import Derived.Test.YtcfnglbcgkappaaVrA
import Derived.Test.YtcfnglbcgkappaaProg
import Derived.Laws.Externs
set_option linter.unusedVariables false
set_option linter.unusedSimpArgs false
namespace Go.Proofs.Ytcfnglbcgkappaa
open Go.RowKit Go.ChangeShapes Go.WideShapes

def tys_SdG : List (Nat × TI) := [(2, ⟨false, 1, [.int .i64 (.lit 0)], [], none, some .i64, false, false, none, 8, false⟩),
 (3, ⟨false, 1, [.int .i64 (.lit 0)], [], none, some .i64, false, false, none, 8, false⟩),
 (5, ⟨false, 1, [.int .u8 (.lit 0)], [], none, some .u8, false, false, none, 1, false⟩),
 (22, ⟨false, 1, [.int .i8 (.lit 0)], [], none, some .i8, false, false, none, 1, false⟩),
 (23, ⟨false, 1, [.int .u64 (.lit 0)], [], none, some .u64, false, false, none, 8, false⟩),
 (25, ⟨true, 4, [.int .u64 (.lit 0), .int .u64 (.lit 0), .int .i64 (.lit 0), .int .i64 (.lit 0)], [(0, 23), (1, 23), (2, 2), (3, 2)], none, none, false, false, none, 32, false⟩),
 (27, ⟨true, 2, [.int .u64 (.lit 0), .int .u64 (.lit 0)], [(0, 23), (1, 23)], none, none, false, false, none, 16, false⟩),
 (29, ⟨true, 6, [.int .u64 (.lit 0), .int .u64 (.lit 0), .int .i64 (.lit 0), .int .i64 (.lit 0), .int .u64 (.lit 0), .int .u64 (.lit 0)], [(0, 25), (4, 27)], none, none, true, false, none, 48, false⟩),
 (31, ⟨true, 9, [.int .i8 (.lit 0), .int .u64 (.lit 0), .int .u64 (.lit 0), .int .i64 (.lit 0), .int .i64 (.lit 0), .int .u64 (.lit 0), .int .u64 (.lit 0), .int .i64 (.lit 0), .int .i64 (.lit 0)], [(0, 22), (1, 29), (7, 3), (8, 3)], none, none, true, false, none, 72, false⟩),
 (32, ⟨true, 99, [.int .i8 (.lit 0), .int .u64 (.lit 0), .int .u64 (.lit 0), .int .i64 (.lit 0), .int .i64 (.lit 0), .int .u64 (.lit 0), .int .u64 (.lit 0), .int .i64 (.lit 0), .int .i64 (.lit 0), .int .i8 (.lit 0), .int .u64 (.lit 0), .int .u64 (.lit 0), .int .i64 (.lit 0), .int .i64 (.lit 0), .int .u64 (.lit 0), .int .u64 (.lit 0), .int .i64 (.lit 0), .int .i64 (.lit 0), .int .i8 (.lit 0), .int .u64 (.lit 0), .int .u64 (.lit 0), .int .i64 (.lit 0), .int .i64 (.lit 0), .int .u64 (.lit 0), .int .u64 (.lit 0), .int .i64 (.lit 0), .int .i64 (.lit 0), .int .i8 (.lit 0), .int .u64 (.lit 0), .int .u64 (.lit 0), .int .i64 (.lit 0), .int .i64 (.lit 0), .int .u64 (.lit 0), .int .u64 (.lit 0), .int .i64 (.lit 0), .int .i64 (.lit 0), .int .i8 (.lit 0), .int .u64 (.lit 0), .int .u64 (.lit 0), .int .i64 (.lit 0), .int .i64 (.lit 0), .int .u64 (.lit 0), .int .u64 (.lit 0), .int .i64 (.lit 0), .int .i64 (.lit 0), .int .i8 (.lit 0), .int .u64 (.lit 0), .int .u64 (.lit 0), .int .i64 (.lit 0), .int .i64 (.lit 0), .int .u64 (.lit 0), .int .u64 (.lit 0), .int .i64 (.lit 0), .int .i64 (.lit 0), .int .i8 (.lit 0), .int .u64 (.lit 0), .int .u64 (.lit 0), .int .i64 (.lit 0), .int .i64 (.lit 0), .int .u64 (.lit 0), .int .u64 (.lit 0), .int .i64 (.lit 0), .int .i64 (.lit 0), .int .i8 (.lit 0), .int .u64 (.lit 0), .int .u64 (.lit 0), .int .i64 (.lit 0), .int .i64 (.lit 0), .int .u64 (.lit 0), .int .u64 (.lit 0), .int .i64 (.lit 0), .int .i64 (.lit 0), .int .i8 (.lit 0), .int .u64 (.lit 0), .int .u64 (.lit 0), .int .i64 (.lit 0), .int .i64 (.lit 0), .int .u64 (.lit 0), .int .u64 (.lit 0), .int .i64 (.lit 0), .int .i64 (.lit 0), .int .i8 (.lit 0), .int .u64 (.lit 0), .int .u64 (.lit 0), .int .i64 (.lit 0), .int .i64 (.lit 0), .int .u64 (.lit 0), .int .u64 (.lit 0), .int .i64 (.lit 0), .int .i64 (.lit 0), .int .i8 (.lit 0), .int .u64 (.lit 0), .int .u64 (.lit 0), .int .i64 (.lit 0), .int .i64 (.lit 0), .int .u64 (.lit 0), .int .u64 (.lit 0), .int .i64 (.lit 0), .int .i64 (.lit 0)], [], some (11, 31), none, false, false, none, 792, false⟩),
 (33, ⟨true, 72, [.int .i8 (.lit 0), .int .u64 (.lit 0), .int .u64 (.lit 0), .int .i64 (.lit 0), .int .i64 (.lit 0), .int .u64 (.lit 0), .int .u64 (.lit 0), .int .i64 (.lit 0), .int .i64 (.lit 0), .int .i8 (.lit 0), .int .u64 (.lit 0), .int .u64 (.lit 0), .int .i64 (.lit 0), .int .i64 (.lit 0), .int .u64 (.lit 0), .int .u64 (.lit 0), .int .i64 (.lit 0), .int .i64 (.lit 0), .int .i8 (.lit 0), .int .u64 (.lit 0), .int .u64 (.lit 0), .int .i64 (.lit 0), .int .i64 (.lit 0), .int .u64 (.lit 0), .int .u64 (.lit 0), .int .i64 (.lit 0), .int .i64 (.lit 0), .int .i8 (.lit 0), .int .u64 (.lit 0), .int .u64 (.lit 0), .int .i64 (.lit 0), .int .i64 (.lit 0), .int .u64 (.lit 0), .int .u64 (.lit 0), .int .i64 (.lit 0), .int .i64 (.lit 0), .int .i8 (.lit 0), .int .u64 (.lit 0), .int .u64 (.lit 0), .int .i64 (.lit 0), .int .i64 (.lit 0), .int .u64 (.lit 0), .int .u64 (.lit 0), .int .i64 (.lit 0), .int .i64 (.lit 0), .int .i8 (.lit 0), .int .u64 (.lit 0), .int .u64 (.lit 0), .int .i64 (.lit 0), .int .i64 (.lit 0), .int .u64 (.lit 0), .int .u64 (.lit 0), .int .i64 (.lit 0), .int .i64 (.lit 0), .int .i8 (.lit 0), .int .u64 (.lit 0), .int .u64 (.lit 0), .int .i64 (.lit 0), .int .i64 (.lit 0), .int .u64 (.lit 0), .int .u64 (.lit 0), .int .i64 (.lit 0), .int .i64 (.lit 0), .int .i8 (.lit 0), .int .u64 (.lit 0), .int .u64 (.lit 0), .int .i64 (.lit 0), .int .i64 (.lit 0), .int .u64 (.lit 0), .int .u64 (.lit 0), .int .i64 (.lit 0), .int .i64 (.lit 0)], [], some (8, 31), none, false, false, none, 576, false⟩),
 (35, ⟨true, 171, [.int .i8 (.lit 0), .int .u64 (.lit 0), .int .u64 (.lit 0), .int .i64 (.lit 0), .int .i64 (.lit 0), .int .u64 (.lit 0), .int .u64 (.lit 0), .int .i64 (.lit 0), .int .i64 (.lit 0), .int .i8 (.lit 0), .int .u64 (.lit 0), .int .u64 (.lit 0), .int .i64 (.lit 0), .int .i64 (.lit 0), .int .u64 (.lit 0), .int .u64 (.lit 0), .int .i64 (.lit 0), .int .i64 (.lit 0), .int .i8 (.lit 0), .int .u64 (.lit 0), .int .u64 (.lit 0), .int .i64 (.lit 0), .int .i64 (.lit 0), .int .u64 (.lit 0), .int .u64 (.lit 0), .int .i64 (.lit 0), .int .i64 (.lit 0), .int .i8 (.lit 0), .int .u64 (.lit 0), .int .u64 (.lit 0), .int .i64 (.lit 0), .int .i64 (.lit 0), .int .u64 (.lit 0), .int .u64 (.lit 0), .int .i64 (.lit 0), .int .i64 (.lit 0), .int .i8 (.lit 0), .int .u64 (.lit 0), .int .u64 (.lit 0), .int .i64 (.lit 0), .int .i64 (.lit 0), .int .u64 (.lit 0), .int .u64 (.lit 0), .int .i64 (.lit 0), .int .i64 (.lit 0), .int .i8 (.lit 0), .int .u64 (.lit 0), .int .u64 (.lit 0), .int .i64 (.lit 0), .int .i64 (.lit 0), .int .u64 (.lit 0), .int .u64 (.lit 0), .int .i64 (.lit 0), .int .i64 (.lit 0), .int .i8 (.lit 0), .int .u64 (.lit 0), .int .u64 (.lit 0), .int .i64 (.lit 0), .int .i64 (.lit 0), .int .u64 (.lit 0), .int .u64 (.lit 0), .int .i64 (.lit 0), .int .i64 (.lit 0), .int .i8 (.lit 0), .int .u64 (.lit 0), .int .u64 (.lit 0), .int .i64 (.lit 0), .int .i64 (.lit 0), .int .u64 (.lit 0), .int .u64 (.lit 0), .int .i64 (.lit 0), .int .i64 (.lit 0), .int .i8 (.lit 0), .int .u64 (.lit 0), .int .u64 (.lit 0), .int .i64 (.lit 0), .int .i64 (.lit 0), .int .u64 (.lit 0), .int .u64 (.lit 0), .int .i64 (.lit 0), .int .i64 (.lit 0), .int .i8 (.lit 0), .int .u64 (.lit 0), .int .u64 (.lit 0), .int .i64 (.lit 0), .int .i64 (.lit 0), .int .u64 (.lit 0), .int .u64 (.lit 0), .int .i64 (.lit 0), .int .i64 (.lit 0), .int .i8 (.lit 0), .int .u64 (.lit 0), .int .u64 (.lit 0), .int .i64 (.lit 0), .int .i64 (.lit 0), .int .u64 (.lit 0), .int .u64 (.lit 0), .int .i64 (.lit 0), .int .i64 (.lit 0), .int .i8 (.lit 0), .int .u64 (.lit 0), .int .u64 (.lit 0), .int .i64 (.lit 0), .int .i64 (.lit 0), .int .u64 (.lit 0), .int .u64 (.lit 0), .int .i64 (.lit 0), .int .i64 (.lit 0), .int .i8 (.lit 0), .int .u64 (.lit 0), .int .u64 (.lit 0), .int .i64 (.lit 0), .int .i64 (.lit 0), .int .u64 (.lit 0), .int .u64 (.lit 0), .int .i64 (.lit 0), .int .i64 (.lit 0), .int .i8 (.lit 0), .int .u64 (.lit 0), .int .u64 (.lit 0), .int .i64 (.lit 0), .int .i64 (.lit 0), .int .u64 (.lit 0), .int .u64 (.lit 0), .int .i64 (.lit 0), .int .i64 (.lit 0), .int .i8 (.lit 0), .int .u64 (.lit 0), .int .u64 (.lit 0), .int .i64 (.lit 0), .int .i64 (.lit 0), .int .u64 (.lit 0), .int .u64 (.lit 0), .int .i64 (.lit 0), .int .i64 (.lit 0), .int .i8 (.lit 0), .int .u64 (.lit 0), .int .u64 (.lit 0), .int .i64 (.lit 0), .int .i64 (.lit 0), .int .u64 (.lit 0), .int .u64 (.lit 0), .int .i64 (.lit 0), .int .i64 (.lit 0), .int .i8 (.lit 0), .int .u64 (.lit 0), .int .u64 (.lit 0), .int .i64 (.lit 0), .int .i64 (.lit 0), .int .u64 (.lit 0), .int .u64 (.lit 0), .int .i64 (.lit 0), .int .i64 (.lit 0), .int .i8 (.lit 0), .int .u64 (.lit 0), .int .u64 (.lit 0), .int .i64 (.lit 0), .int .i64 (.lit 0), .int .u64 (.lit 0), .int .u64 (.lit 0), .int .i64 (.lit 0), .int .i64 (.lit 0), .int .i8 (.lit 0), .int .u64 (.lit 0), .int .u64 (.lit 0), .int .i64 (.lit 0), .int .i64 (.lit 0), .int .u64 (.lit 0), .int .u64 (.lit 0), .int .i64 (.lit 0), .int .i64 (.lit 0)], [(0, 32), (99, 33)], none, none, false, false, none, 1368, false⟩),
 (41, ⟨true, 11, [.int .u64 (.lit 0), .int .u64 (.lit 0), .int .u64 (.lit 0), .int .u64 (.lit 0), .int .u64 (.lit 0), .int .u64 (.lit 0), .int .u64 (.lit 0), .int .u64 (.lit 0), .int .u64 (.lit 0), .int .u64 (.lit 0), .int .u64 (.lit 0)], [], some (11, 23), none, false, false, none, 88, false⟩),
 (42, ⟨true, 64, [.int .u8 (.lit 0), .int .u8 (.lit 0), .int .u8 (.lit 0), .int .u8 (.lit 0), .int .u8 (.lit 0), .int .u8 (.lit 0), .int .u8 (.lit 0), .int .u8 (.lit 0), .int .u8 (.lit 0), .int .u8 (.lit 0), .int .u8 (.lit 0), .int .u8 (.lit 0), .int .u8 (.lit 0), .int .u8 (.lit 0), .int .u8 (.lit 0), .int .u8 (.lit 0), .int .u8 (.lit 0), .int .u8 (.lit 0), .int .u8 (.lit 0), .int .u8 (.lit 0), .int .u8 (.lit 0), .int .u8 (.lit 0), .int .u8 (.lit 0), .int .u8 (.lit 0), .int .u8 (.lit 0), .int .u8 (.lit 0), .int .u8 (.lit 0), .int .u8 (.lit 0), .int .u8 (.lit 0), .int .u8 (.lit 0), .int .u8 (.lit 0), .int .u8 (.lit 0), .int .u8 (.lit 0), .int .u8 (.lit 0), .int .u8 (.lit 0), .int .u8 (.lit 0), .int .u8 (.lit 0), .int .u8 (.lit 0), .int .u8 (.lit 0), .int .u8 (.lit 0), .int .u8 (.lit 0), .int .u8 (.lit 0), .int .u8 (.lit 0), .int .u8 (.lit 0), .int .u8 (.lit 0), .int .u8 (.lit 0), .int .u8 (.lit 0), .int .u8 (.lit 0), .int .u8 (.lit 0), .int .u8 (.lit 0), .int .u8 (.lit 0), .int .u8 (.lit 0), .int .u8 (.lit 0), .int .u8 (.lit 0), .int .u8 (.lit 0), .int .u8 (.lit 0), .int .u8 (.lit 0), .int .u8 (.lit 0), .int .u8 (.lit 0), .int .u8 (.lit 0), .int .u8 (.lit 0), .int .u8 (.lit 0), .int .u8 (.lit 0), .int .u8 (.lit 0)], [], some (64, 5), none, false, false, none, 64, false⟩),
 (44, ⟨true, 76, [.int .u64 (.lit 0), .int .u64 (.lit 0), .int .u64 (.lit 0), .int .u64 (.lit 0), .int .u64 (.lit 0), .int .u64 (.lit 0), .int .u64 (.lit 0), .int .u64 (.lit 0), .int .u64 (.lit 0), .int .u64 (.lit 0), .int .u64 (.lit 0), .int .i64 (.lit 0), .int .u8 (.lit 0), .int .u8 (.lit 0), .int .u8 (.lit 0), .int .u8 (.lit 0), .int .u8 (.lit 0), .int .u8 (.lit 0), .int .u8 (.lit 0), .int .u8 (.lit 0), .int .u8 (.lit 0), .int .u8 (.lit 0), .int .u8 (.lit 0), .int .u8 (.lit 0), .int .u8 (.lit 0), .int .u8 (.lit 0), .int .u8 (.lit 0), .int .u8 (.lit 0), .int .u8 (.lit 0), .int .u8 (.lit 0), .int .u8 (.lit 0), .int .u8 (.lit 0), .int .u8 (.lit 0), .int .u8 (.lit 0), .int .u8 (.lit 0), .int .u8 (.lit 0), .int .u8 (.lit 0), .int .u8 (.lit 0), .int .u8 (.lit 0), .int .u8 (.lit 0), .int .u8 (.lit 0), .int .u8 (.lit 0), .int .u8 (.lit 0), .int .u8 (.lit 0), .int .u8 (.lit 0), .int .u8 (.lit 0), .int .u8 (.lit 0), .int .u8 (.lit 0), .int .u8 (.lit 0), .int .u8 (.lit 0), .int .u8 (.lit 0), .int .u8 (.lit 0), .int .u8 (.lit 0), .int .u8 (.lit 0), .int .u8 (.lit 0), .int .u8 (.lit 0), .int .u8 (.lit 0), .int .u8 (.lit 0), .int .u8 (.lit 0), .int .u8 (.lit 0), .int .u8 (.lit 0), .int .u8 (.lit 0), .int .u8 (.lit 0), .int .u8 (.lit 0), .int .u8 (.lit 0), .int .u8 (.lit 0), .int .u8 (.lit 0), .int .u8 (.lit 0), .int .u8 (.lit 0), .int .u8 (.lit 0), .int .u8 (.lit 0), .int .u8 (.lit 0), .int .u8 (.lit 0), .int .u8 (.lit 0), .int .u8 (.lit 0), .int .u8 (.lit 0)], [(0, 41), (11, 3), (12, 42)], none, none, false, false, none, 160, false⟩)]
set_option maxRecDepth 100000 in
theorem tysck_SdG : (tys_SdG.all fun p => ckTI Try.prog p.1 p.2) = true := by kernel_rfl
theorem tyseq_SdG : (tys_SdG.all fun p => !p.2.eqok || ((Nat.beq p.1 29 && kindsC p.2.zero z_Sc) || (Nat.beq p.1 31 && kindsC p.2.zero z_Ty))) = true := by kernel_rfl
theorem tysok_SdG : ∀ t i, (t, i) ∈ tys_SdG → TIok Try.prog t i := by
  intro t i h
  have h1 := List.all_eq_true.1 tyseq_SdG (t, i) h
  have h2 : i.eqok = true → (t = 29 ∧ kindsC i.zero z_Sc = true) ∨ (t = 31 ∧ kindsC i.zero z_Ty = true) := by
    intro he
    simp only [he, Bool.not_true, Bool.false_or, Bool.or_eq_true, Bool.and_eq_true] at h1
    rcases h1 with h1 | h1
    · exact .inl ⟨Nat.eq_of_beq_eq_true h1.1, h1.2⟩
    · exact .inr (⟨Nat.eq_of_beq_eq_true h1.1, h1.2⟩)
  refine TIok_of (all_at (f := ckTI Try.prog) tysck_SdG h) (fun he => ?_) (fun he => ?_)
  · rcases h2 he with ⟨rfl, hs⟩ | ⟨rfl, hs⟩
    · exact fun vs us hv hu => eq_Sc vs us (kindsV_of hs hv) (kindsV_of hs hu)
    · exact fun vs us hv hu => eq_Ty vs us (kindsV_of hs hv) (kindsV_of hs hu)
  · rcases h2 he with ⟨rfl, hs⟩ | ⟨rfl, hs⟩
    · exact grd_Sc
    · exact grd_Ty
def sM_ytok (key : Nat) : Sm := ⟨27, key, [.agg kTy], [.one .bool], false⟩
def sV_ytok (t : Ty) : List Dt := [.z (b2i (tok t))]
def sF_ytok : List Dt → List Dt
  | [.z x0, .z x1, .z x2, .z x3, .z x4, .z x5, .z x6, .z x7, .z x8] => sV_ytok ⟨x0, x1, x2, x3, x4, x5, x6, x7, x8⟩
  | _ => []
def sT_ytok : Tr :=
(.br (.eq (.var 0) (.lit 0))
(.leaf (.consb (.and (.eq (.var 0) (.lit 0)) (.and (.eq (.var 1) (.lit 0)) (.and (.eq (.var 2) (.lit 0)) (.and (.eq (.var 3) (.lit 0)) (.and (.eq (.var 4) (.lit 0)) (.and (.eq (.var 5) (.lit 0)) (.and (.eq (.var 6) (.lit 0)) (.and (.eq (.var 7) (.lit 0)) (.and (.eq (.var 8) (.lit 0)) (.tt true)))))))))) .nil))
(.br (.eq (.var 0) (.lit 1))
(.call 0 ([.bool]) (.vs 1 6 .nil) 9
(.br (.bvar 9)
(.br (.eq (.var 7) (.lit 0))
(.leaf (.consb (.eq (.var 8) (.lit 0)) .nil))
(.leaf (.consb (.tt false) .nil)))
(.leaf (.consb (.tt false) .nil))))
(.br (.eq (.var 0) (.lit 2))
(.br (.lt (.var 8) (.var 7))
(.leaf (.consb (.tt false) .nil))
(.br (.lt (.var 7) (.lit (-1048576)))
(.leaf (.consb (.tt false) .nil))
(.br (.lt (.lit 1048576) (.var 8))
(.leaf (.consb (.tt false) .nil))
(.leaf (.consb (.and (.eq (.var 1) (.lit 0)) (.and (.eq (.var 2) (.lit 0)) (.and (.eq (.var 3) (.lit 0)) (.and (.eq (.var 4) (.lit 0)) (.and (.eq (.var 5) (.lit 0)) (.and (.eq (.var 6) (.lit 0)) (.tt true))))))) .nil)))))
(.br (.eq (.var 0) (.lit 3))
(.br (.lt (.var 8) (.var 7))
(.leaf (.consb (.tt false) .nil))
(.br (.lt (.var 7) (.lit (-1048576)))
(.leaf (.consb (.tt false) .nil))
(.br (.lt (.lit 1048576) (.var 8))
(.leaf (.consb (.tt false) .nil))
(.leaf (.consb (.and (.eq (.var 1) (.lit 0)) (.and (.eq (.var 2) (.lit 0)) (.and (.eq (.var 3) (.lit 0)) (.and (.eq (.var 4) (.lit 0)) (.and (.eq (.var 5) (.lit 0)) (.and (.eq (.var 6) (.lit 0)) (.tt true))))))) .nil)))))
(.leaf (.consb (.tt false) .nil))))))
def sP_ytok : Spec := ⟨fun k => match k with | 0 => sF_wmay | _ => fun _ => [], fun k => match k with | _ => fun _ => True⟩
set_option maxRecDepth 100000 in
theorem sR_ytok : treeIs tys_SdG [sM_wmay 0] [] [] [] 200 Try.f27 [.agg kTy] [.one .bool] false (v_Ty ([])) sT_ytok := ⟨by kernel_rfl, by kernel_rfl, by kernel_rfl⟩
set_option maxRecDepth 100000 in
set_option maxHeartbeats 8000000 in
theorem sX_ytok (t : Ty) (ht : Ty.ok t) (ρ : Env) (g : varsD ρ 0 (v_Ty ([])) = (d_Ty t ([]))) : sT_ytok.asks sP_ytok (fun ρ e => e.D ρ = sF_ytok (d_Ty t ([]))) ρ fun _ _ => False := by
  simp only [d_Ty, v_Ty, varsD, varD, List.cons.injEq, Dt.z.injEq, Dt.l.injEq, b2i_eq_iff, Nat.reduceAdd, and_true] at g
  simp only [sT_ytok, sP_ytok, d_Ty, sF_wmay, sV_wmay, sF_ytok, sV_ytok, Tr.asks, upd_same, okDs, okD, eqs, E.I, E.B, E.L, E.R, E.D, E.vs, dI, dB, dL, varD, varsD, List.getElem?_cons_zero, List.getElem?_cons_succ, List.cons_append, List.nil_append, Nat.zero_add, Nat.add_zero, Nat.reduceAdd, and_true, true_and, b2i_one, -eq_self, etasX, g]
  refine ⟨fun c0 => ?_, fun c0 => ?_⟩
  · (unfold tok; simp_all [tbare, Bool.and_assoc] <;> first | (intros; omega) | (rw [Bool.eq_iff_iff]; simp; done))
  refine ⟨fun c1 => ?_, fun c1 => ?_⟩
  intro e; (try simp only [e, etasX, -eq_self]); clear e
  refine ⟨fun c2 => ?_, fun c2 => ?_⟩
  refine ⟨fun c3 => ?_, fun c3 => ?_⟩
  · (unfold tok; simp_all [tbare, Bool.and_assoc] <;> first | (intros; omega) | (rw [Bool.eq_iff_iff]; simp; done))
  · (unfold tok; simp_all [tbare, Bool.and_assoc] <;> first | (intros; omega) | (rw [Bool.eq_iff_iff]; simp; done))
  · (unfold tok; simp_all [tbare, Bool.and_assoc] <;> first | (intros; omega) | (rw [Bool.eq_iff_iff]; simp; done))
  refine ⟨fun c4 => ?_, fun c4 => ?_⟩
  refine ⟨fun c5 => ?_, fun c5 => ?_⟩
  · (unfold tok; simp_all [tbare, Bool.and_assoc] <;> first | (intros; omega) | (rw [Bool.eq_iff_iff]; simp; done))
  refine ⟨fun c6 => ?_, fun c6 => ?_⟩
  · (unfold tok; simp_all [tbare, Bool.and_assoc] <;> first | (intros; omega) | (rw [Bool.eq_iff_iff]; simp; done))
  refine ⟨fun c7 => ?_, fun c7 => ?_⟩
  · (unfold tok; simp_all [tbare, Bool.and_assoc] <;> first | (intros; omega) | (rw [Bool.eq_iff_iff]; simp; done))
  · (unfold tok; simp_all [tbare, Bool.and_assoc] <;> first | (intros; omega) | (rw [Bool.eq_iff_iff]; simp; done))
  refine ⟨fun c8 => ?_, fun c8 => ?_⟩
  refine ⟨fun c9 => ?_, fun c9 => ?_⟩
  · (unfold tok; simp_all [tbare, Bool.and_assoc] <;> first | (intros; omega) | (rw [Bool.eq_iff_iff]; simp; done))
  refine ⟨fun c10 => ?_, fun c10 => ?_⟩
  · (unfold tok; simp_all [tbare, Bool.and_assoc] <;> first | (intros; omega) | (rw [Bool.eq_iff_iff]; simp; done))
  refine ⟨fun c11 => ?_, fun c11 => ?_⟩
  · (unfold tok; simp_all [tbare, Bool.and_assoc] <;> first | (intros; omega) | (rw [Bool.eq_iff_iff]; simp; done))
  · (unfold tok; simp_all [tbare, Bool.and_assoc] <;> first | (intros; omega) | (rw [Bool.eq_iff_iff]; simp; done))
  · (unfold tok; simp_all [tbare, Bool.and_assoc] <;> first | (intros; omega) | (rw [Bool.eq_iff_iff]; simp; done))
theorem sK_ytok {sp : Spec} {key : Nat} (hF : sp.F key = sF_ytok) (hP : sp.pre key = fun _ => True := by rfl) : SmOk Try.prog sp (sM_ytok key) :=
  fun_ok (s := sM_ytok key) hF hP (by kernel_rfl) tysok_SdG (smc (sK_wmay rfl) sm0) Try.func27 fn0 sR_ytok (.inl rfl) (for_Ty fun q0 gq0 => fun  hp ρ g => sX_ytok q0 gq0 ρ g)
def sM_ymay (key : Nat) : Sm := ⟨15, key, [.agg kSta], [.one .bool], false⟩
def sV_ymay (s : Sta) : List Dt := [.z (b2i (smay s))]
def sF_ymay : List Dt → List Dt := rd_Sta fun s => fun _ => sV_ymay s
def sT_ymay : Tr :=
(.call 0 ([.bool]) (.vs 0 9 .nil) 171
(.br (.bvar 171)
(.call 0 ([.bool]) (.vs 9 9 .nil) 172
(.br (.bvar 172)
(.call 0 ([.bool]) (.vs 18 9 .nil) 173
(.br (.bvar 173)
(.call 0 ([.bool]) (.vs 27 9 .nil) 174
(.br (.bvar 174)
(.call 0 ([.bool]) (.vs 36 9 .nil) 175
(.br (.bvar 175)
(.call 0 ([.bool]) (.vs 45 9 .nil) 176
(.br (.bvar 176)
(.call 0 ([.bool]) (.vs 54 9 .nil) 177
(.br (.bvar 177)
(.call 0 ([.bool]) (.vs 63 9 .nil) 178
(.br (.bvar 178)
(.call 0 ([.bool]) (.vs 72 9 .nil) 179
(.br (.bvar 179)
(.call 0 ([.bool]) (.vs 81 9 .nil) 180
(.br (.bvar 180)
(.call 0 ([.bool]) (.vs 90 9 .nil) 181
(.br (.bvar 181)
(.call 0 ([.bool]) (.vs 99 9 .nil) 182
(.br (.bvar 182)
(.br (.eq (.var 99) (.lit 0))
(.leaf (.consb (.tt false) .nil))
(.call 0 ([.bool]) (.vs 108 9 .nil) 183
(.br (.bvar 183)
(.br (.eq (.var 108) (.lit 0))
(.leaf (.consb (.tt false) .nil))
(.call 0 ([.bool]) (.vs 117 9 .nil) 184
(.br (.bvar 184)
(.br (.eq (.var 117) (.lit 0))
(.leaf (.consb (.tt false) .nil))
(.call 0 ([.bool]) (.vs 126 9 .nil) 185
(.br (.bvar 185)
(.br (.eq (.var 126) (.lit 0))
(.leaf (.consb (.tt false) .nil))
(.call 0 ([.bool]) (.vs 135 9 .nil) 186
(.br (.bvar 186)
(.br (.eq (.var 135) (.lit 0))
(.leaf (.consb (.tt false) .nil))
(.call 0 ([.bool]) (.vs 144 9 .nil) 187
(.br (.bvar 187)
(.br (.eq (.var 144) (.lit 0))
(.leaf (.consb (.tt false) .nil))
(.call 0 ([.bool]) (.vs 153 9 .nil) 188
(.br (.bvar 188)
(.br (.eq (.var 153) (.lit 0))
(.leaf (.consb (.tt false) .nil))
(.call 0 ([.bool]) (.vs 162 9 .nil) 189
(.br (.bvar 189)
(.br (.eq (.var 162) (.lit 0))
(.leaf (.consb (.tt false) .nil))
(.leaf (.consb (.tt true) .nil)))
(.leaf (.consb (.tt false) .nil)))))
(.leaf (.consb (.tt false) .nil)))))
(.leaf (.consb (.tt false) .nil)))))
(.leaf (.consb (.tt false) .nil)))))
(.leaf (.consb (.tt false) .nil)))))
(.leaf (.consb (.tt false) .nil)))))
(.leaf (.consb (.tt false) .nil)))))
(.leaf (.consb (.tt false) .nil))))
(.leaf (.consb (.tt false) .nil))))
(.leaf (.consb (.tt false) .nil))))
(.leaf (.consb (.tt false) .nil))))
(.leaf (.consb (.tt false) .nil))))
(.leaf (.consb (.tt false) .nil))))
(.leaf (.consb (.tt false) .nil))))
(.leaf (.consb (.tt false) .nil))))
(.leaf (.consb (.tt false) .nil))))
(.leaf (.consb (.tt false) .nil))))
(.leaf (.consb (.tt false) .nil))))
(.leaf (.consb (.tt false) .nil))))
def sP_ymay : Spec := ⟨fun k => match k with | 0 => sF_ytok | _ => fun _ => [], fun k => match k with | _ => fun _ => True⟩
set_option maxRecDepth 100000 in
theorem sR_ymay : treeIs tys_SdG [sM_ytok 0] [] [] [] 200 Try.f15 [.agg kSta] [.one .bool] false (v_Sta ([])) sT_ymay := ⟨by kernel_rfl, by kernel_rfl, by kernel_rfl⟩
set_option maxRecDepth 100000 in
set_option maxHeartbeats 8000000 in
theorem sX_ymay (s : Sta) (hs : Sta.ok s) (ρ : Env) (g : varsD ρ 0 (v_Sta ([])) = (d_Sta s ([]))) : sT_ymay.asks sP_ymay (fun ρ e => e.D ρ = sF_ymay (d_Sta s ([]))) ρ fun _ _ => False := by
  simp only [sF_ymay, rd_Sta_d, rd_Ty_d, rdZ, rdB]
  simp only [d_Sta, d_Ty, v_Sta, v_Ty, varsD, varD, List.cons.injEq, Dt.z.injEq, Dt.l.injEq, b2i_eq_iff, Nat.reduceAdd, and_true] at g
  simp (maxSteps := 10000000) only [sT_ymay, sP_ymay, d_Sta, d_Ty, rd_Sta, rd_Ty, sF_ytok, sV_ytok, sF_ymay, sV_ymay, Tr.asks, upd_same, okDs, okD, eqs, E.I, E.B, E.L, E.R, E.D, E.vs, dI, dB, dL, varD, varsD, List.getElem?_cons_zero, List.getElem?_cons_succ, List.cons_append, List.nil_append, Nat.zero_add, Nat.add_zero, Nat.reduceAdd, and_true, true_and, b2i_one, -eq_self, etasX, g]
  intro e; (try simp only [e, etasX, -eq_self]); clear e
  refine ⟨fun c0 => ?_, fun c0 => ?_⟩
  intro e; (try simp only [e, etasX, -eq_self]); clear e
  refine ⟨fun c1 => ?_, fun c1 => ?_⟩
  intro e; (try simp only [e, etasX, -eq_self]); clear e
  refine ⟨fun c2 => ?_, fun c2 => ?_⟩
  intro e; (try simp only [e, etasX, -eq_self]); clear e
  refine ⟨fun c3 => ?_, fun c3 => ?_⟩
  intro e; (try simp only [e, etasX, -eq_self]); clear e
  refine ⟨fun c4 => ?_, fun c4 => ?_⟩
  intro e; (try simp only [e, etasX, -eq_self]); clear e
  refine ⟨fun c5 => ?_, fun c5 => ?_⟩
  intro e; (try simp only [e, etasX, -eq_self]); clear e
  refine ⟨fun c6 => ?_, fun c6 => ?_⟩
  intro e; (try simp only [e, etasX, -eq_self]); clear e
  refine ⟨fun c7 => ?_, fun c7 => ?_⟩
  intro e; (try simp only [e, etasX, -eq_self]); clear e
  refine ⟨fun c8 => ?_, fun c8 => ?_⟩
  intro e; (try simp only [e, etasX, -eq_self]); clear e
  refine ⟨fun c9 => ?_, fun c9 => ?_⟩
  intro e; (try simp only [e, etasX, -eq_self]); clear e
  refine ⟨fun c10 => ?_, fun c10 => ?_⟩
  intro e; (try simp only [e, etasX, -eq_self]); clear e
  refine ⟨fun c11 => ?_, fun c11 => ?_⟩
  refine ⟨fun c12 => ?_, fun c12 => ?_⟩
  · (unfold smay tset; simp_all)
  intro e; (try simp only [e, etasX, -eq_self]); clear e
  refine ⟨fun c13 => ?_, fun c13 => ?_⟩
  refine ⟨fun c14 => ?_, fun c14 => ?_⟩
  · (unfold smay tset; simp_all)
  intro e; (try simp only [e, etasX, -eq_self]); clear e
  refine ⟨fun c15 => ?_, fun c15 => ?_⟩
  refine ⟨fun c16 => ?_, fun c16 => ?_⟩
  · (unfold smay tset; simp_all)
  intro e; (try simp only [e, etasX, -eq_self]); clear e
  refine ⟨fun c17 => ?_, fun c17 => ?_⟩
  refine ⟨fun c18 => ?_, fun c18 => ?_⟩
  · (unfold smay tset; simp_all)
  intro e; (try simp only [e, etasX, -eq_self]); clear e
  refine ⟨fun c19 => ?_, fun c19 => ?_⟩
  refine ⟨fun c20 => ?_, fun c20 => ?_⟩
  · (unfold smay tset; simp_all)
  intro e; (try simp only [e, etasX, -eq_self]); clear e
  refine ⟨fun c21 => ?_, fun c21 => ?_⟩
  refine ⟨fun c22 => ?_, fun c22 => ?_⟩
  · (unfold smay tset; simp_all)
  intro e; (try simp only [e, etasX, -eq_self]); clear e
  refine ⟨fun c23 => ?_, fun c23 => ?_⟩
  refine ⟨fun c24 => ?_, fun c24 => ?_⟩
  · (unfold smay tset; simp_all)
  intro e; (try simp only [e, etasX, -eq_self]); clear e
  refine ⟨fun c25 => ?_, fun c25 => ?_⟩
  refine ⟨fun c26 => ?_, fun c26 => ?_⟩
  · (unfold smay tset; simp_all)
  · (unfold smay tset; simp_all)
  · (unfold smay tset; simp_all)
  · (unfold smay tset; simp_all)
  · (unfold smay tset; simp_all)
  · (unfold smay tset; simp_all)
  · (unfold smay tset; simp_all)
  · (unfold smay tset; simp_all)
  · (unfold smay tset; simp_all)
  · (unfold smay tset; simp_all)
  · (unfold smay tset; simp_all)
  · (unfold smay tset; simp_all)
  · (unfold smay tset; simp_all)
  · (unfold smay tset; simp_all)
  · (unfold smay tset; simp_all)
  · (unfold smay tset; simp_all)
  · (unfold smay tset; simp_all)
  · (unfold smay tset; simp_all)
  · (unfold smay tset; simp_all)
  · (unfold smay tset; simp_all)
  · (unfold smay tset; simp_all)
theorem sK_ymay {sp : Spec} {key : Nat} (hF : sp.F key = sF_ymay) (hP : sp.pre key = fun _ => True := by rfl) : SmOk Try.prog sp (sM_ymay key) :=
  fun_ok (s := sM_ymay key) hF hP (by kernel_rfl) tysok_SdG (smc (sK_ytok rfl) sm0) Try.func15 fn0 sR_ymay (.inl rfl) (for_Sta fun q0 gq0 => fun  hp ρ g => sX_ymay q0 gq0 ρ g)
end Go.Proofs.Ytcfnglbcgkappaa

