/- Contracts of In of package state, with its closure run in place. -/
import Derived.Test.YtgfghplnankgnaaSdC
import Derived.Test.YtgfghplnankgnaaVrB
import Derived.Test.YtgfghplnankgnaaProg
import Derived.Laws.Externs
set_option linter.unusedVariables false
set_option linter.unusedSimpArgs false
namespace Go.Proofs.Ytgfghplnankgnaa
open Go.RowKit Go.ChangeShapes Go.WideShapes

def tys_SdK : List (Nat × TI) := [(2, ⟨false, 1, [.int .i64 (.lit 0)], [], none, some .i64, false, false, none, 8, false, none, false⟩),
 (3, ⟨false, 1, [.int .i64 (.lit 0)], [], none, some .i64, false, false, none, 8, false, none, false⟩),
 (4, ⟨false, 1, [.bool (.tt false)], [], none, none, false, true, none, 1, false, none, false⟩),
 (22, ⟨false, 1, [.int .i8 (.lit 0)], [], none, some .i8, false, false, none, 1, false, none, false⟩),
 (23, ⟨false, 1, [.int .u64 (.lit 0)], [], none, some .u64, false, false, none, 8, false, none, false⟩),
 (25, ⟨true, 4, [.int .u64 (.lit 0), .int .u64 (.lit 0), .int .i64 (.lit 0), .int .i64 (.lit 0)], [(0, 23), (1, 23), (2, 2), (3, 2)], none, none, false, false, none, 32, false, none, false⟩),
 (27, ⟨true, 2, [.int .u64 (.lit 0), .int .u64 (.lit 0)], [(0, 23), (1, 23)], none, none, false, false, none, 16, false, none, false⟩),
 (29, ⟨true, 6, [.int .u64 (.lit 0), .int .u64 (.lit 0), .int .i64 (.lit 0), .int .i64 (.lit 0), .int .u64 (.lit 0), .int .u64 (.lit 0)], [(0, 25), (4, 27)], none, none, true, false, none, 48, false, none, false⟩),
 (31, ⟨true, 9, [.int .i8 (.lit 0), .int .u64 (.lit 0), .int .u64 (.lit 0), .int .i64 (.lit 0), .int .i64 (.lit 0), .int .u64 (.lit 0), .int .u64 (.lit 0), .int .i64 (.lit 0), .int .i64 (.lit 0)], [(0, 22), (1, 29), (7, 3), (8, 3)], none, none, true, false, none, 72, false, none, false⟩),
 (32, ⟨true, 99, [.int .i8 (.lit 0), .int .u64 (.lit 0), .int .u64 (.lit 0), .int .i64 (.lit 0), .int .i64 (.lit 0), .int .u64 (.lit 0), .int .u64 (.lit 0), .int .i64 (.lit 0), .int .i64 (.lit 0), .int .i8 (.lit 0), .int .u64 (.lit 0), .int .u64 (.lit 0), .int .i64 (.lit 0), .int .i64 (.lit 0), .int .u64 (.lit 0), .int .u64 (.lit 0), .int .i64 (.lit 0), .int .i64 (.lit 0), .int .i8 (.lit 0), .int .u64 (.lit 0), .int .u64 (.lit 0), .int .i64 (.lit 0), .int .i64 (.lit 0), .int .u64 (.lit 0), .int .u64 (.lit 0), .int .i64 (.lit 0), .int .i64 (.lit 0), .int .i8 (.lit 0), .int .u64 (.lit 0), .int .u64 (.lit 0), .int .i64 (.lit 0), .int .i64 (.lit 0), .int .u64 (.lit 0), .int .u64 (.lit 0), .int .i64 (.lit 0), .int .i64 (.lit 0), .int .i8 (.lit 0), .int .u64 (.lit 0), .int .u64 (.lit 0), .int .i64 (.lit 0), .int .i64 (.lit 0), .int .u64 (.lit 0), .int .u64 (.lit 0), .int .i64 (.lit 0), .int .i64 (.lit 0), .int .i8 (.lit 0), .int .u64 (.lit 0), .int .u64 (.lit 0), .int .i64 (.lit 0), .int .i64 (.lit 0), .int .u64 (.lit 0), .int .u64 (.lit 0), .int .i64 (.lit 0), .int .i64 (.lit 0), .int .i8 (.lit 0), .int .u64 (.lit 0), .int .u64 (.lit 0), .int .i64 (.lit 0), .int .i64 (.lit 0), .int .u64 (.lit 0), .int .u64 (.lit 0), .int .i64 (.lit 0), .int .i64 (.lit 0), .int .i8 (.lit 0), .int .u64 (.lit 0), .int .u64 (.lit 0), .int .i64 (.lit 0), .int .i64 (.lit 0), .int .u64 (.lit 0), .int .u64 (.lit 0), .int .i64 (.lit 0), .int .i64 (.lit 0), .int .i8 (.lit 0), .int .u64 (.lit 0), .int .u64 (.lit 0), .int .i64 (.lit 0), .int .i64 (.lit 0), .int .u64 (.lit 0), .int .u64 (.lit 0), .int .i64 (.lit 0), .int .i64 (.lit 0), .int .i8 (.lit 0), .int .u64 (.lit 0), .int .u64 (.lit 0), .int .i64 (.lit 0), .int .i64 (.lit 0), .int .u64 (.lit 0), .int .u64 (.lit 0), .int .i64 (.lit 0), .int .i64 (.lit 0), .int .i8 (.lit 0), .int .u64 (.lit 0), .int .u64 (.lit 0), .int .i64 (.lit 0), .int .i64 (.lit 0), .int .u64 (.lit 0), .int .u64 (.lit 0), .int .i64 (.lit 0), .int .i64 (.lit 0)], [], some (11, 31), none, false, false, none, 792, false, none, false⟩),
 (33, ⟨true, 72, [.int .i8 (.lit 0), .int .u64 (.lit 0), .int .u64 (.lit 0), .int .i64 (.lit 0), .int .i64 (.lit 0), .int .u64 (.lit 0), .int .u64 (.lit 0), .int .i64 (.lit 0), .int .i64 (.lit 0), .int .i8 (.lit 0), .int .u64 (.lit 0), .int .u64 (.lit 0), .int .i64 (.lit 0), .int .i64 (.lit 0), .int .u64 (.lit 0), .int .u64 (.lit 0), .int .i64 (.lit 0), .int .i64 (.lit 0), .int .i8 (.lit 0), .int .u64 (.lit 0), .int .u64 (.lit 0), .int .i64 (.lit 0), .int .i64 (.lit 0), .int .u64 (.lit 0), .int .u64 (.lit 0), .int .i64 (.lit 0), .int .i64 (.lit 0), .int .i8 (.lit 0), .int .u64 (.lit 0), .int .u64 (.lit 0), .int .i64 (.lit 0), .int .i64 (.lit 0), .int .u64 (.lit 0), .int .u64 (.lit 0), .int .i64 (.lit 0), .int .i64 (.lit 0), .int .i8 (.lit 0), .int .u64 (.lit 0), .int .u64 (.lit 0), .int .i64 (.lit 0), .int .i64 (.lit 0), .int .u64 (.lit 0), .int .u64 (.lit 0), .int .i64 (.lit 0), .int .i64 (.lit 0), .int .i8 (.lit 0), .int .u64 (.lit 0), .int .u64 (.lit 0), .int .i64 (.lit 0), .int .i64 (.lit 0), .int .u64 (.lit 0), .int .u64 (.lit 0), .int .i64 (.lit 0), .int .i64 (.lit 0), .int .i8 (.lit 0), .int .u64 (.lit 0), .int .u64 (.lit 0), .int .i64 (.lit 0), .int .i64 (.lit 0), .int .u64 (.lit 0), .int .u64 (.lit 0), .int .i64 (.lit 0), .int .i64 (.lit 0), .int .i8 (.lit 0), .int .u64 (.lit 0), .int .u64 (.lit 0), .int .i64 (.lit 0), .int .i64 (.lit 0), .int .u64 (.lit 0), .int .u64 (.lit 0), .int .i64 (.lit 0), .int .i64 (.lit 0)], [], some (8, 31), none, false, false, none, 576, false, none, false⟩),
 (35, ⟨true, 171, [.int .i8 (.lit 0), .int .u64 (.lit 0), .int .u64 (.lit 0), .int .i64 (.lit 0), .int .i64 (.lit 0), .int .u64 (.lit 0), .int .u64 (.lit 0), .int .i64 (.lit 0), .int .i64 (.lit 0), .int .i8 (.lit 0), .int .u64 (.lit 0), .int .u64 (.lit 0), .int .i64 (.lit 0), .int .i64 (.lit 0), .int .u64 (.lit 0), .int .u64 (.lit 0), .int .i64 (.lit 0), .int .i64 (.lit 0), .int .i8 (.lit 0), .int .u64 (.lit 0), .int .u64 (.lit 0), .int .i64 (.lit 0), .int .i64 (.lit 0), .int .u64 (.lit 0), .int .u64 (.lit 0), .int .i64 (.lit 0), .int .i64 (.lit 0), .int .i8 (.lit 0), .int .u64 (.lit 0), .int .u64 (.lit 0), .int .i64 (.lit 0), .int .i64 (.lit 0), .int .u64 (.lit 0), .int .u64 (.lit 0), .int .i64 (.lit 0), .int .i64 (.lit 0), .int .i8 (.lit 0), .int .u64 (.lit 0), .int .u64 (.lit 0), .int .i64 (.lit 0), .int .i64 (.lit 0), .int .u64 (.lit 0), .int .u64 (.lit 0), .int .i64 (.lit 0), .int .i64 (.lit 0), .int .i8 (.lit 0), .int .u64 (.lit 0), .int .u64 (.lit 0), .int .i64 (.lit 0), .int .i64 (.lit 0), .int .u64 (.lit 0), .int .u64 (.lit 0), .int .i64 (.lit 0), .int .i64 (.lit 0), .int .i8 (.lit 0), .int .u64 (.lit 0), .int .u64 (.lit 0), .int .i64 (.lit 0), .int .i64 (.lit 0), .int .u64 (.lit 0), .int .u64 (.lit 0), .int .i64 (.lit 0), .int .i64 (.lit 0), .int .i8 (.lit 0), .int .u64 (.lit 0), .int .u64 (.lit 0), .int .i64 (.lit 0), .int .i64 (.lit 0), .int .u64 (.lit 0), .int .u64 (.lit 0), .int .i64 (.lit 0), .int .i64 (.lit 0), .int .i8 (.lit 0), .int .u64 (.lit 0), .int .u64 (.lit 0), .int .i64 (.lit 0), .int .i64 (.lit 0), .int .u64 (.lit 0), .int .u64 (.lit 0), .int .i64 (.lit 0), .int .i64 (.lit 0), .int .i8 (.lit 0), .int .u64 (.lit 0), .int .u64 (.lit 0), .int .i64 (.lit 0), .int .i64 (.lit 0), .int .u64 (.lit 0), .int .u64 (.lit 0), .int .i64 (.lit 0), .int .i64 (.lit 0), .int .i8 (.lit 0), .int .u64 (.lit 0), .int .u64 (.lit 0), .int .i64 (.lit 0), .int .i64 (.lit 0), .int .u64 (.lit 0), .int .u64 (.lit 0), .int .i64 (.lit 0), .int .i64 (.lit 0), .int .i8 (.lit 0), .int .u64 (.lit 0), .int .u64 (.lit 0), .int .i64 (.lit 0), .int .i64 (.lit 0), .int .u64 (.lit 0), .int .u64 (.lit 0), .int .i64 (.lit 0), .int .i64 (.lit 0), .int .i8 (.lit 0), .int .u64 (.lit 0), .int .u64 (.lit 0), .int .i64 (.lit 0), .int .i64 (.lit 0), .int .u64 (.lit 0), .int .u64 (.lit 0), .int .i64 (.lit 0), .int .i64 (.lit 0), .int .i8 (.lit 0), .int .u64 (.lit 0), .int .u64 (.lit 0), .int .i64 (.lit 0), .int .i64 (.lit 0), .int .u64 (.lit 0), .int .u64 (.lit 0), .int .i64 (.lit 0), .int .i64 (.lit 0), .int .i8 (.lit 0), .int .u64 (.lit 0), .int .u64 (.lit 0), .int .i64 (.lit 0), .int .i64 (.lit 0), .int .u64 (.lit 0), .int .u64 (.lit 0), .int .i64 (.lit 0), .int .i64 (.lit 0), .int .i8 (.lit 0), .int .u64 (.lit 0), .int .u64 (.lit 0), .int .i64 (.lit 0), .int .i64 (.lit 0), .int .u64 (.lit 0), .int .u64 (.lit 0), .int .i64 (.lit 0), .int .i64 (.lit 0), .int .i8 (.lit 0), .int .u64 (.lit 0), .int .u64 (.lit 0), .int .i64 (.lit 0), .int .i64 (.lit 0), .int .u64 (.lit 0), .int .u64 (.lit 0), .int .i64 (.lit 0), .int .i64 (.lit 0), .int .i8 (.lit 0), .int .u64 (.lit 0), .int .u64 (.lit 0), .int .i64 (.lit 0), .int .i64 (.lit 0), .int .u64 (.lit 0), .int .u64 (.lit 0), .int .i64 (.lit 0), .int .i64 (.lit 0), .int .i8 (.lit 0), .int .u64 (.lit 0), .int .u64 (.lit 0), .int .i64 (.lit 0), .int .i64 (.lit 0), .int .u64 (.lit 0), .int .u64 (.lit 0), .int .i64 (.lit 0), .int .i64 (.lit 0)], [(0, 32), (99, 33)], none, none, false, false, none, 1368, false, none, false⟩),
 (43, ⟨false, 1, [.int .i64 (.lit 0)], [], none, some .i64, false, false, none, 8, false, none, false⟩)]
set_option maxRecDepth 100000 in
theorem tysck_SdK : (tys_SdK.all fun p => ckTI Try.prog p.1 p.2) = true := by kernel_rfl
theorem tyseq_SdK : (tys_SdK.all fun p => !p.2.eqok || ((Nat.beq p.1 29 && kindsC p.2.zero z_Sc) || (Nat.beq p.1 31 && kindsC p.2.zero z_Ty))) = true := by kernel_rfl
theorem tyskn_SdK : (tys_SdK.all fun p => !p.2.keyok) = true := by kernel_rfl
theorem tysok_SdK : ∀ t i, (t, i) ∈ tys_SdK → TIok Try.prog t i := by
  intro t i h
  refine TIok_of (all_at (f := ckTI Try.prog) tysck_SdK h) (fun he => ?_) (fun he => ?_) (fun he => ?_)
  · have h1 := List.all_eq_true.1 tyseq_SdK (t, i) h
    simp only [he, Bool.not_true, Bool.false_or, Bool.or_eq_true, Bool.and_eq_true] at h1
    rcases h1 with h1 | h1
    · have hs := h1.2
      obtain rfl := Nat.eq_of_beq_eq_true h1.1
      exact fun vs us hv hu => eq_Sc vs us (kindsV_of hs hv) (kindsV_of hs hu)
    · have hs := h1.2
      obtain rfl := Nat.eq_of_beq_eq_true h1.1
      exact fun vs us hv hu => eq_Ty vs us (kindsV_of hs hv) (kindsV_of hs hu)
  · have h1 := List.all_eq_true.1 tyseq_SdK (t, i) h
    simp only [he, Bool.not_true, Bool.false_or, Bool.or_eq_true, Bool.and_eq_true] at h1
    rcases h1 with h1 | h1
    · have hs := h1.2
      obtain rfl := Nat.eq_of_beq_eq_true h1.1
      exact grd_Sc
    · have hs := h1.2
      obtain rfl := Nat.eq_of_beq_eq_true h1.1
      exact grd_Ty
  · have h1 := List.all_eq_true.1 tyskn_SdK (t, i) h
    simp [he] at h1
def sM_twith (key : Nat) : Sm := ⟨24, key, [.agg kTy, .agg kTy], [.one .bool], false⟩
def sV_twith (a : Ty) (b : Ty) : List Dt := [.z (b2i (twi a b))]
def sF_twith : List Dt → List Dt
  | [.z x0, .z x1, .z x2, .z x3, .z x4, .z x5, .z x6, .z x7, .z x8, .z x9, .z x10, .z x11, .z x12, .z x13, .z x14, .z x15, .z x16, .z x17] => sV_twith ⟨x0, x1, x2, x3, x4, x5, x6, x7, x8⟩ ⟨x9, x10, x11, x12, x13, x14, x15, x16, x17⟩
  | _ => []
def sT_twith : Tr :=
(.br (.eq (.var 9) (.lit 0))
(.leaf (.consb (.tt true) .nil))
(.br (.eq (.var 0) (.lit 0))
(.leaf (.consb (.tt false) .nil))
(.call 0 (kTy) .nil 18
(.br (.eq (.var 9) (.var 18))
(.br (.eq (.var 10) (.var 19))
(.br (.eq (.var 11) (.var 20))
(.br (.eq (.var 12) (.var 21))
(.br (.eq (.var 13) (.var 22))
(.br (.eq (.var 14) (.var 23))
(.br (.eq (.var 15) (.var 24))
(.br (.eq (.var 16) (.var 25))
(.br (.eq (.var 17) (.var 26))
(.leaf (.consb (.tt true) .nil))
(.br (.eq (.var 0) (.var 9))
(.br (.eq (.var 0) (.lit 1))
(.call 1 ([.bool]) (.vs 1 6 (.vs 10 6 .nil)) 27
(.leaf (.consb (.bvar 27) .nil)))
(.br (.lt (.var 7) (.var 16))
(.leaf (.consb (.tt false) .nil))
(.leaf (.consb (.not (.lt (.var 17) (.var 8))) .nil))))
(.leaf (.consb (.tt false) .nil))))
(.br (.eq (.var 0) (.var 9))
(.br (.eq (.var 0) (.lit 1))
(.call 1 ([.bool]) (.vs 1 6 (.vs 10 6 .nil)) 27
(.leaf (.consb (.bvar 27) .nil)))
(.br (.lt (.var 7) (.var 16))
(.leaf (.consb (.tt false) .nil))
(.leaf (.consb (.not (.lt (.var 17) (.var 8))) .nil))))
(.leaf (.consb (.tt false) .nil))))
(.br (.eq (.var 0) (.var 9))
(.br (.eq (.var 0) (.lit 1))
(.call 1 ([.bool]) (.vs 1 6 (.vs 10 6 .nil)) 27
(.leaf (.consb (.bvar 27) .nil)))
(.br (.lt (.var 7) (.var 16))
(.leaf (.consb (.tt false) .nil))
(.leaf (.consb (.not (.lt (.var 17) (.var 8))) .nil))))
(.leaf (.consb (.tt false) .nil))))
(.br (.eq (.var 0) (.var 9))
(.br (.eq (.var 0) (.lit 1))
(.call 1 ([.bool]) (.vs 1 6 (.vs 10 6 .nil)) 27
(.leaf (.consb (.bvar 27) .nil)))
(.br (.lt (.var 7) (.var 16))
(.leaf (.consb (.tt false) .nil))
(.leaf (.consb (.not (.lt (.var 17) (.var 8))) .nil))))
(.leaf (.consb (.tt false) .nil))))
(.br (.eq (.var 0) (.var 9))
(.br (.eq (.var 0) (.lit 1))
(.call 1 ([.bool]) (.vs 1 6 (.vs 10 6 .nil)) 27
(.leaf (.consb (.bvar 27) .nil)))
(.br (.lt (.var 7) (.var 16))
(.leaf (.consb (.tt false) .nil))
(.leaf (.consb (.not (.lt (.var 17) (.var 8))) .nil))))
(.leaf (.consb (.tt false) .nil))))
(.br (.eq (.var 0) (.var 9))
(.br (.eq (.var 0) (.lit 1))
(.call 1 ([.bool]) (.vs 1 6 (.vs 10 6 .nil)) 27
(.leaf (.consb (.bvar 27) .nil)))
(.br (.lt (.var 7) (.var 16))
(.leaf (.consb (.tt false) .nil))
(.leaf (.consb (.not (.lt (.var 17) (.var 8))) .nil))))
(.leaf (.consb (.tt false) .nil))))
(.br (.eq (.var 0) (.var 9))
(.br (.eq (.var 0) (.lit 1))
(.call 1 ([.bool]) (.vs 1 6 (.vs 10 6 .nil)) 27
(.leaf (.consb (.bvar 27) .nil)))
(.br (.lt (.var 7) (.var 16))
(.leaf (.consb (.tt false) .nil))
(.leaf (.consb (.not (.lt (.var 17) (.var 8))) .nil))))
(.leaf (.consb (.tt false) .nil))))
(.br (.eq (.var 0) (.var 9))
(.br (.eq (.var 0) (.lit 1))
(.call 1 ([.bool]) (.vs 1 6 (.vs 10 6 .nil)) 27
(.leaf (.consb (.bvar 27) .nil)))
(.br (.lt (.var 7) (.var 16))
(.leaf (.consb (.tt false) .nil))
(.leaf (.consb (.not (.lt (.var 17) (.var 8))) .nil))))
(.leaf (.consb (.tt false) .nil))))
(.br (.eq (.var 0) (.var 9))
(.br (.eq (.var 0) (.lit 1))
(.call 1 ([.bool]) (.vs 1 6 (.vs 10 6 .nil)) 27
(.leaf (.consb (.bvar 27) .nil)))
(.br (.lt (.var 7) (.var 16))
(.leaf (.consb (.tt false) .nil))
(.leaf (.consb (.not (.lt (.var 17) (.var 8))) .nil))))
(.leaf (.consb (.tt false) .nil)))))))
def sP_twith : Spec := ⟨fun k => match k with | 0 => sF_tscal | 1 => sF_vin | _ => fun _ => [], fun k => match k with | _ => fun _ => True⟩
set_option maxRecDepth 100000 in
theorem sR_twith : treeIs tys_SdK [sM_tscal 0, sM_vin 1] [] [] [] 200 Try.f24 [.agg kTy, .agg kTy] [.one .bool] false (v_Ty ( v_Ty ([]))) sT_twith := ⟨by kernel_rfl, by kernel_rfl, by kernel_rfl⟩
set_option maxRecDepth 100000 in
set_option maxHeartbeats 8000000 in
theorem sX_twith (a : Ty) (ha : Ty.ok a) (b : Ty) (hb : Ty.ok b) (ρ : Env) (g : varsD ρ 0 (v_Ty ( v_Ty ([]))) = (d_Ty a ( d_Ty b ([])))) : sT_twith.asks sP_twith (fun ρ e => e.D ρ = sF_twith (d_Ty a ( d_Ty b ([])))) ρ fun _ _ => False := by
  simp only [d_Ty, v_Ty, varsD, varD, List.cons.injEq, Dt.z.injEq, Dt.l.injEq, b2i_eq_iff, Nat.reduceAdd, and_true] at g
  simp only [sT_twith, sP_twith, d_Ty, kTy, sF_tscal, sF_vin, sV_vin, sF_twith, sV_twith, Tr.asks, upd_same, okDs, okD, eqs, E.I, E.B, E.L, E.R, E.D, E.vs, dI, dB, dL, varD, varsD, List.getElem?_cons_zero, List.getElem?_cons_succ, List.cons_append, List.nil_append, Nat.zero_add, Nat.add_zero, Nat.reduceAdd, and_true, true_and, b2i_one, -eq_self, etasX, g]
  refine ⟨fun c0 => ?_, fun c0 => ?_⟩
  · rw [twi_0 c0]
  refine ⟨fun c1 => ?_, fun c1 => ?_⟩
  · rw [twi_a c0 c1]
  intro e; (try simp only [e, etasX, -eq_self]); clear e
  refine ⟨fun c2 => ?_, fun c2 => ?_⟩
  refine ⟨fun c3 => ?_, fun c3 => ?_⟩
  refine ⟨fun c4 => ?_, fun c4 => ?_⟩
  refine ⟨fun c5 => ?_, fun c5 => ?_⟩
  refine ⟨fun c6 => ?_, fun c6 => ?_⟩
  refine ⟨fun c7 => ?_, fun c7 => ?_⟩
  refine ⟨fun c8 => ?_, fun c8 => ?_⟩
  refine ⟨fun c9 => ?_, fun c9 => ?_⟩
  refine ⟨fun c10 => ?_, fun c10 => ?_⟩
  · rw [twi_s c0 c1 (by unfold tise; simp only [c2, c3, c4, c5, c6, c7, c8, c9, c10, Bool.and_self])]
  refine ⟨fun c11 => ?_, fun c11 => ?_⟩
  refine ⟨fun c12 => ?_, fun c12 => ?_⟩
  intro e; (try simp only [e, etasX, -eq_self]); clear e
  · rw [twi_1 c0 c1 (by unfold tise; simp only [c10, Bool.false_and, Bool.and_false]) c11 c12]
  refine ⟨fun c13 => ?_, fun c13 => ?_⟩
  · rw [twi_p c0 c1 (by unfold tise; simp only [c10, Bool.false_and, Bool.and_false]) c11 c12, le2_no c13]
  · rw [twi_p c0 c1 (by unfold tise; simp only [c10, Bool.false_and, Bool.and_false]) c11 c12, le2_yes c13]
  · rw [twi_n c0 c1 (by unfold tise; simp only [c10, Bool.false_and, Bool.and_false]) c11]
  refine ⟨fun c14 => ?_, fun c14 => ?_⟩
  refine ⟨fun c15 => ?_, fun c15 => ?_⟩
  intro e; (try simp only [e, etasX, -eq_self]); clear e
  · rw [twi_1 c0 c1 (by unfold tise; simp only [c9, Bool.false_and, Bool.and_false]) c14 c15]
  refine ⟨fun c16 => ?_, fun c16 => ?_⟩
  · rw [twi_p c0 c1 (by unfold tise; simp only [c9, Bool.false_and, Bool.and_false]) c14 c15, le2_no c16]
  · rw [twi_p c0 c1 (by unfold tise; simp only [c9, Bool.false_and, Bool.and_false]) c14 c15, le2_yes c16]
  · rw [twi_n c0 c1 (by unfold tise; simp only [c9, Bool.false_and, Bool.and_false]) c14]
  refine ⟨fun c17 => ?_, fun c17 => ?_⟩
  refine ⟨fun c18 => ?_, fun c18 => ?_⟩
  intro e; (try simp only [e, etasX, -eq_self]); clear e
  · rw [twi_1 c0 c1 (by unfold tise; simp only [c8, Bool.false_and, Bool.and_false]) c17 c18]
  refine ⟨fun c19 => ?_, fun c19 => ?_⟩
  · rw [twi_p c0 c1 (by unfold tise; simp only [c8, Bool.false_and, Bool.and_false]) c17 c18, le2_no c19]
  · rw [twi_p c0 c1 (by unfold tise; simp only [c8, Bool.false_and, Bool.and_false]) c17 c18, le2_yes c19]
  · rw [twi_n c0 c1 (by unfold tise; simp only [c8, Bool.false_and, Bool.and_false]) c17]
  refine ⟨fun c20 => ?_, fun c20 => ?_⟩
  refine ⟨fun c21 => ?_, fun c21 => ?_⟩
  intro e; (try simp only [e, etasX, -eq_self]); clear e
  · rw [twi_1 c0 c1 (by unfold tise; simp only [c7, Bool.false_and, Bool.and_false]) c20 c21]
  refine ⟨fun c22 => ?_, fun c22 => ?_⟩
  · rw [twi_p c0 c1 (by unfold tise; simp only [c7, Bool.false_and, Bool.and_false]) c20 c21, le2_no c22]
  · rw [twi_p c0 c1 (by unfold tise; simp only [c7, Bool.false_and, Bool.and_false]) c20 c21, le2_yes c22]
  · rw [twi_n c0 c1 (by unfold tise; simp only [c7, Bool.false_and, Bool.and_false]) c20]
  refine ⟨fun c23 => ?_, fun c23 => ?_⟩
  refine ⟨fun c24 => ?_, fun c24 => ?_⟩
  intro e; (try simp only [e, etasX, -eq_self]); clear e
  · rw [twi_1 c0 c1 (by unfold tise; simp only [c6, Bool.false_and, Bool.and_false]) c23 c24]
  refine ⟨fun c25 => ?_, fun c25 => ?_⟩
  · rw [twi_p c0 c1 (by unfold tise; simp only [c6, Bool.false_and, Bool.and_false]) c23 c24, le2_no c25]
  · rw [twi_p c0 c1 (by unfold tise; simp only [c6, Bool.false_and, Bool.and_false]) c23 c24, le2_yes c25]
  · rw [twi_n c0 c1 (by unfold tise; simp only [c6, Bool.false_and, Bool.and_false]) c23]
  refine ⟨fun c26 => ?_, fun c26 => ?_⟩
  refine ⟨fun c27 => ?_, fun c27 => ?_⟩
  intro e; (try simp only [e, etasX, -eq_self]); clear e
  · rw [twi_1 c0 c1 (by unfold tise; simp only [c5, Bool.false_and, Bool.and_false]) c26 c27]
  refine ⟨fun c28 => ?_, fun c28 => ?_⟩
  · rw [twi_p c0 c1 (by unfold tise; simp only [c5, Bool.false_and, Bool.and_false]) c26 c27, le2_no c28]
  · rw [twi_p c0 c1 (by unfold tise; simp only [c5, Bool.false_and, Bool.and_false]) c26 c27, le2_yes c28]
  · rw [twi_n c0 c1 (by unfold tise; simp only [c5, Bool.false_and, Bool.and_false]) c26]
  refine ⟨fun c29 => ?_, fun c29 => ?_⟩
  refine ⟨fun c30 => ?_, fun c30 => ?_⟩
  intro e; (try simp only [e, etasX, -eq_self]); clear e
  · rw [twi_1 c0 c1 (by unfold tise; simp only [c4, Bool.false_and, Bool.and_false]) c29 c30]
  refine ⟨fun c31 => ?_, fun c31 => ?_⟩
  · rw [twi_p c0 c1 (by unfold tise; simp only [c4, Bool.false_and, Bool.and_false]) c29 c30, le2_no c31]
  · rw [twi_p c0 c1 (by unfold tise; simp only [c4, Bool.false_and, Bool.and_false]) c29 c30, le2_yes c31]
  · rw [twi_n c0 c1 (by unfold tise; simp only [c4, Bool.false_and, Bool.and_false]) c29]
  refine ⟨fun c32 => ?_, fun c32 => ?_⟩
  refine ⟨fun c33 => ?_, fun c33 => ?_⟩
  intro e; (try simp only [e, etasX, -eq_self]); clear e
  · rw [twi_1 c0 c1 (by unfold tise; simp only [c3, Bool.false_and, Bool.and_false]) c32 c33]
  refine ⟨fun c34 => ?_, fun c34 => ?_⟩
  · rw [twi_p c0 c1 (by unfold tise; simp only [c3, Bool.false_and, Bool.and_false]) c32 c33, le2_no c34]
  · rw [twi_p c0 c1 (by unfold tise; simp only [c3, Bool.false_and, Bool.and_false]) c32 c33, le2_yes c34]
  · rw [twi_n c0 c1 (by unfold tise; simp only [c3, Bool.false_and, Bool.and_false]) c32]
  refine ⟨fun c35 => ?_, fun c35 => ?_⟩
  refine ⟨fun c36 => ?_, fun c36 => ?_⟩
  intro e; (try simp only [e, etasX, -eq_self]); clear e
  · rw [twi_1 c0 c1 (by unfold tise; simp only [c2, Bool.false_and, Bool.and_false]) c35 c36]
  refine ⟨fun c37 => ?_, fun c37 => ?_⟩
  · rw [twi_p c0 c1 (by unfold tise; simp only [c2, Bool.false_and, Bool.and_false]) c35 c36, le2_no c37]
  · rw [twi_p c0 c1 (by unfold tise; simp only [c2, Bool.false_and, Bool.and_false]) c35 c36, le2_yes c37]
  · rw [twi_n c0 c1 (by unfold tise; simp only [c2, Bool.false_and, Bool.and_false]) c35]
theorem sK_twith {sp : Spec} {key : Nat} (hF : sp.F key = sF_twith) (hP : sp.pre key = fun _ => True := by rfl) : SmOk Try.prog sp (sM_twith key) :=
  fun_ok (s := sM_twith key) hF hP (by kernel_rfl) tysok_SdK (smc (sK_tscal rfl) (smc (sK_vin rfl) sm0)) Try.func24 fn0 sR_twith (.inl rfl) (for_Ty fun q0 gq0 => for_Ty fun q1 gq1 => fun  hp ρ g => sX_twith q0 gq0 q1 gq1 ρ g)
def sM_tin (key : Nat) : Sm := ⟨9, key, [.agg kSta, .agg kSta], [.one .bool], false⟩
def sV_tin (a : Sta) (b : Sta) : List Dt := [.z (b2i (sin a b))]
def sF_tin : List Dt → List Dt := rd_Sta fun a => rd_Sta fun b => fun _ => sV_tin a b
def sT_tin : Tr :=
(.call 0 ([.bool]) (.vs 0 171 .nil) 342
(.br (.bvar 342)
(.call 0 ([.bool]) (.vs 171 171 .nil) 343
(.br (.bvar 343)
(.call 1 ([.bool]) (.vs 0 9 (.vs 171 9 .nil)) 344
(.br (.bvar 344)
(.call 1 ([.bool]) (.vs 9 9 (.vs 180 9 .nil)) 345
(.br (.bvar 345)
(.call 1 ([.bool]) (.vs 18 9 (.vs 189 9 .nil)) 346
(.br (.bvar 346)
(.call 1 ([.bool]) (.vs 27 9 (.vs 198 9 .nil)) 347
(.br (.bvar 347)
(.call 1 ([.bool]) (.vs 36 9 (.vs 207 9 .nil)) 348
(.br (.bvar 348)
(.call 1 ([.bool]) (.vs 45 9 (.vs 216 9 .nil)) 349
(.br (.bvar 349)
(.call 1 ([.bool]) (.vs 54 9 (.vs 225 9 .nil)) 350
(.br (.bvar 350)
(.call 1 ([.bool]) (.vs 63 9 (.vs 234 9 .nil)) 351
(.br (.bvar 351)
(.call 1 ([.bool]) (.vs 72 9 (.vs 243 9 .nil)) 352
(.br (.bvar 352)
(.call 1 ([.bool]) (.vs 81 9 (.vs 252 9 .nil)) 353
(.br (.bvar 353)
(.call 1 ([.bool]) (.vs 90 9 (.vs 261 9 .nil)) 354
(.br (.bvar 354)
(.call 1 ([.bool]) (.vs 99 9 (.vs 270 9 .nil)) 355
(.br (.bvar 355)
(.call 1 ([.bool]) (.vs 108 9 (.vs 279 9 .nil)) 356
(.br (.bvar 356)
(.call 1 ([.bool]) (.vs 117 9 (.vs 288 9 .nil)) 357
(.br (.bvar 357)
(.call 1 ([.bool]) (.vs 126 9 (.vs 297 9 .nil)) 358
(.br (.bvar 358)
(.call 1 ([.bool]) (.vs 135 9 (.vs 306 9 .nil)) 359
(.br (.bvar 359)
(.call 1 ([.bool]) (.vs 144 9 (.vs 315 9 .nil)) 360
(.br (.bvar 360)
(.call 1 ([.bool]) (.vs 153 9 (.vs 324 9 .nil)) 361
(.br (.bvar 361)
(.call 1 ([.bool]) (.vs 162 9 (.vs 333 9 .nil)) 362
(.br (.bvar 362)
(.leaf (.consb (.tt true) .nil))
(.leaf (.consb (.tt false) .nil))))
(.leaf (.consb (.tt false) .nil))))
(.leaf (.consb (.tt false) .nil))))
(.leaf (.consb (.tt false) .nil))))
(.leaf (.consb (.tt false) .nil))))
(.leaf (.consb (.tt false) .nil))))
(.leaf (.consb (.tt false) .nil))))
(.leaf (.consb (.tt false) .nil))))
(.leaf (.consb (.tt false) .nil))))
(.leaf (.consb (.tt false) .nil))))
(.leaf (.consb (.tt false) .nil))))
(.leaf (.consb (.tt false) .nil))))
(.leaf (.consb (.tt false) .nil))))
(.leaf (.consb (.tt false) .nil))))
(.leaf (.consb (.tt false) .nil))))
(.leaf (.consb (.tt false) .nil))))
(.leaf (.consb (.tt false) .nil))))
(.leaf (.consb (.tt false) .nil))))
(.leaf (.consb (.tt false) .nil))))
(.leaf (.consb (.tt false) .nil))))
(.leaf (.consb (.tt false) .nil))))
def sP_tin : Spec := ⟨fun k => match k with | 0 => sF_tmay | 1 => sF_twith | _ => fun _ => [], fun k => match k with | _ => fun _ => True⟩
set_option maxRecDepth 100000 in
theorem sR_tin : treeIs tys_SdK [sM_tmay 0, sM_twith 1] [(17, Try.f17, [], []), (23, Try.f23, [], [])] [] [] 400 Try.f9 [.agg kSta, .agg kSta] [.one .bool] false (v_Sta ( v_Sta ([]))) sT_tin := ⟨by kernel_rfl, by kernel_rfl, by kernel_rfl⟩
set_option maxRecDepth 100000 in
set_option maxHeartbeats 8000000 in
theorem sX_tin (a : Sta) (ha : Sta.ok a) (b : Sta) (hb : Sta.ok b) (ρ : Env) (g : varsD ρ 0 (v_Sta ( v_Sta ([]))) = (d_Sta a ( d_Sta b ([])))) : sT_tin.asks sP_tin (fun ρ e => e.D ρ = sF_tin (d_Sta a ( d_Sta b ([])))) ρ fun _ _ => False := by
  simp only [sF_tin, rd_Sta_d, rd_Ty_d, rdZ, rdB]
  simp only [d_Sta, d_Ty, v_Sta, v_Ty, varsD, varD, List.cons.injEq, Dt.z.injEq, Dt.l.injEq, b2i_eq_iff, Nat.reduceAdd, and_true] at g
  simp (maxSteps := 10000000) only [sT_tin, sP_tin, d_Sta, d_Ty, rd_Sta, rd_Ty, sF_tmay, sF_twith, sV_tmay, sV_twith, sF_tin, sV_tin, Tr.asks, upd_same, okDs, okD, eqs, E.I, E.B, E.L, E.R, E.D, E.vs, dI, dB, dL, varD, varsD, List.getElem?_cons_zero, List.getElem?_cons_succ, List.cons_append, List.nil_append, Nat.zero_add, Nat.add_zero, Nat.reduceAdd, and_true, true_and, b2i_one, -eq_self, etasX, g]
  intro e; (try simp only [e, etasX, -eq_self]); clear e
  refine ⟨fun c0 => ?_, fun c0 => ?_⟩
  intro e; (try simp only [e, etasX, -eq_self]); clear e
  refine ⟨fun c1 => ?_, fun c1 => ?_⟩
  intro e; (try simp only [e, etasX, -eq_self]); clear e
  refine ⟨fun c2 => ?_, fun c2 => ?_⟩
  intro e; (try simp only [e, etasX, -eq_self]); clear e
  refine ⟨fun c3 => ?_, fun c3 => ?_⟩
  intro e; (try simp only [e, etasX, -eq_self]); clear e
  refine ⟨fun c4 => ?_, fun c4 => ?_⟩
  intro e; (try simp only [e, etasX, -eq_self]); clear e
  refine ⟨fun c5 => ?_, fun c5 => ?_⟩
  intro e; (try simp only [e, etasX, -eq_self]); clear e
  refine ⟨fun c6 => ?_, fun c6 => ?_⟩
  intro e; (try simp only [e, etasX, -eq_self]); clear e
  refine ⟨fun c7 => ?_, fun c7 => ?_⟩
  intro e; (try simp only [e, etasX, -eq_self]); clear e
  refine ⟨fun c8 => ?_, fun c8 => ?_⟩
  intro e; (try simp only [e, etasX, -eq_self]); clear e
  refine ⟨fun c9 => ?_, fun c9 => ?_⟩
  intro e; (try simp only [e, etasX, -eq_self]); clear e
  refine ⟨fun c10 => ?_, fun c10 => ?_⟩
  intro e; (try simp only [e, etasX, -eq_self]); clear e
  refine ⟨fun c11 => ?_, fun c11 => ?_⟩
  intro e; (try simp only [e, etasX, -eq_self]); clear e
  refine ⟨fun c12 => ?_, fun c12 => ?_⟩
  intro e; (try simp only [e, etasX, -eq_self]); clear e
  refine ⟨fun c13 => ?_, fun c13 => ?_⟩
  intro e; (try simp only [e, etasX, -eq_self]); clear e
  refine ⟨fun c14 => ?_, fun c14 => ?_⟩
  intro e; (try simp only [e, etasX, -eq_self]); clear e
  refine ⟨fun c15 => ?_, fun c15 => ?_⟩
  intro e; (try simp only [e, etasX, -eq_self]); clear e
  refine ⟨fun c16 => ?_, fun c16 => ?_⟩
  intro e; (try simp only [e, etasX, -eq_self]); clear e
  refine ⟨fun c17 => ?_, fun c17 => ?_⟩
  intro e; (try simp only [e, etasX, -eq_self]); clear e
  refine ⟨fun c18 => ?_, fun c18 => ?_⟩
  intro e; (try simp only [e, etasX, -eq_self]); clear e
  refine ⟨fun c19 => ?_, fun c19 => ?_⟩
  intro e; (try simp only [e, etasX, -eq_self]); clear e
  refine ⟨fun c20 => ?_, fun c20 => ?_⟩
  · simp only [sin, c0, c1, c2, c3, c4, c5, c6, c7, c8, c9, c10, c11, c12, c13, c14, c15, c16, c17, c18, c19, c20, Bool.and_self]
  · simp only [sin, c20, Bool.false_and, Bool.and_false]
  · simp only [sin, c19, Bool.false_and, Bool.and_false]
  · simp only [sin, c18, Bool.false_and, Bool.and_false]
  · simp only [sin, c17, Bool.false_and, Bool.and_false]
  · simp only [sin, c16, Bool.false_and, Bool.and_false]
  · simp only [sin, c15, Bool.false_and, Bool.and_false]
  · simp only [sin, c14, Bool.false_and, Bool.and_false]
  · simp only [sin, c13, Bool.false_and, Bool.and_false]
  · simp only [sin, c12, Bool.false_and, Bool.and_false]
  · simp only [sin, c11, Bool.false_and, Bool.and_false]
  · simp only [sin, c10, Bool.false_and, Bool.and_false]
  · simp only [sin, c9, Bool.false_and, Bool.and_false]
  · simp only [sin, c8, Bool.false_and, Bool.and_false]
  · simp only [sin, c7, Bool.false_and, Bool.and_false]
  · simp only [sin, c6, Bool.false_and, Bool.and_false]
  · simp only [sin, c5, Bool.false_and, Bool.and_false]
  · simp only [sin, c4, Bool.false_and, Bool.and_false]
  · simp only [sin, c3, Bool.false_and, Bool.and_false]
  · simp only [sin, c2, Bool.false_and, Bool.and_false]
  · simp only [sin, c1, Bool.false_and, Bool.and_false]
  · simp only [sin, c0, Bool.false_and, Bool.and_false]
theorem sK_tin {sp : Spec} {key : Nat} (hF : sp.F key = sF_tin) (hP : sp.pre key = fun _ => True := by rfl) : SmOk Try.prog sp (sM_tin key) :=
  fun_ok (s := sM_tin key) hF hP (by kernel_rfl) tysok_SdK (smc (sK_tmay rfl) (smc (sK_twith rfl) sm0)) Try.func9 (fnc Try.func17 (fnc Try.func23 fn0)) sR_tin (.inl rfl) (for_Sta fun q0 gq0 => for_Sta fun q1 gq1 => fun  hp ρ g => sX_tin q0 gq0 q1 gq1 ρ g)
end Go.Proofs.Ytgfghplnankgnaa

