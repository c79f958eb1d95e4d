/- Contracts of Join, Widen and In of latheref10, by the symbolic run. -/
import Derived.Test.YtcfnglbcgkappaaSdG
import Derived.Test.YtcfnglbcgkappaaProg
import Derived.Laws.Externs
set_option linter.unusedVariables false
set_option linter.unusedSimpArgs false
namespace Go.Proofs.Ytcfnglbcgkappaa
open Go.RowKit Go.ChangeShapes Go.WideShapes

def tys_SdM : List (Nat × TI) := [(2, ⟨false, 1, [.int .i64 (.lit 0)], [], none, some .i64, false, false, none, 8, false⟩),
 (3, ⟨false, 1, [.int .i64 (.lit 0)], [], none, some .i64, false, false, none, 8, false⟩),
 (22, ⟨false, 1, [.int .i8 (.lit 0)], [], none, some .i8, false, false, none, 1, false⟩),
 (23, ⟨false, 1, [.int .u64 (.lit 0)], [], none, some .u64, false, false, none, 8, false⟩),
 (25, ⟨true, 4, [.int .u64 (.lit 0), .int .u64 (.lit 0), .int .i64 (.lit 0), .int .i64 (.lit 0)], [(0, 23), (1, 23), (2, 2), (3, 2)], none, none, false, false, none, 32, false⟩),
 (27, ⟨true, 2, [.int .u64 (.lit 0), .int .u64 (.lit 0)], [(0, 23), (1, 23)], none, none, false, false, none, 16, false⟩),
 (29, ⟨true, 6, [.int .u64 (.lit 0), .int .u64 (.lit 0), .int .i64 (.lit 0), .int .i64 (.lit 0), .int .u64 (.lit 0), .int .u64 (.lit 0)], [(0, 25), (4, 27)], none, none, true, false, none, 48, false⟩),
 (31, ⟨true, 9, [.int .i8 (.lit 0), .int .u64 (.lit 0), .int .u64 (.lit 0), .int .i64 (.lit 0), .int .i64 (.lit 0), .int .u64 (.lit 0), .int .u64 (.lit 0), .int .i64 (.lit 0), .int .i64 (.lit 0)], [(0, 22), (1, 29), (7, 3), (8, 3)], none, none, true, false, none, 72, false⟩),
 (32, ⟨true, 99, [.int .i8 (.lit 0), .int .u64 (.lit 0), .int .u64 (.lit 0), .int .i64 (.lit 0), .int .i64 (.lit 0), .int .u64 (.lit 0), .int .u64 (.lit 0), .int .i64 (.lit 0), .int .i64 (.lit 0), .int .i8 (.lit 0), .int .u64 (.lit 0), .int .u64 (.lit 0), .int .i64 (.lit 0), .int .i64 (.lit 0), .int .u64 (.lit 0), .int .u64 (.lit 0), .int .i64 (.lit 0), .int .i64 (.lit 0), .int .i8 (.lit 0), .int .u64 (.lit 0), .int .u64 (.lit 0), .int .i64 (.lit 0), .int .i64 (.lit 0), .int .u64 (.lit 0), .int .u64 (.lit 0), .int .i64 (.lit 0), .int .i64 (.lit 0), .int .i8 (.lit 0), .int .u64 (.lit 0), .int .u64 (.lit 0), .int .i64 (.lit 0), .int .i64 (.lit 0), .int .u64 (.lit 0), .int .u64 (.lit 0), .int .i64 (.lit 0), .int .i64 (.lit 0), .int .i8 (.lit 0), .int .u64 (.lit 0), .int .u64 (.lit 0), .int .i64 (.lit 0), .int .i64 (.lit 0), .int .u64 (.lit 0), .int .u64 (.lit 0), .int .i64 (.lit 0), .int .i64 (.lit 0), .int .i8 (.lit 0), .int .u64 (.lit 0), .int .u64 (.lit 0), .int .i64 (.lit 0), .int .i64 (.lit 0), .int .u64 (.lit 0), .int .u64 (.lit 0), .int .i64 (.lit 0), .int .i64 (.lit 0), .int .i8 (.lit 0), .int .u64 (.lit 0), .int .u64 (.lit 0), .int .i64 (.lit 0), .int .i64 (.lit 0), .int .u64 (.lit 0), .int .u64 (.lit 0), .int .i64 (.lit 0), .int .i64 (.lit 0), .int .i8 (.lit 0), .int .u64 (.lit 0), .int .u64 (.lit 0), .int .i64 (.lit 0), .int .i64 (.lit 0), .int .u64 (.lit 0), .int .u64 (.lit 0), .int .i64 (.lit 0), .int .i64 (.lit 0), .int .i8 (.lit 0), .int .u64 (.lit 0), .int .u64 (.lit 0), .int .i64 (.lit 0), .int .i64 (.lit 0), .int .u64 (.lit 0), .int .u64 (.lit 0), .int .i64 (.lit 0), .int .i64 (.lit 0), .int .i8 (.lit 0), .int .u64 (.lit 0), .int .u64 (.lit 0), .int .i64 (.lit 0), .int .i64 (.lit 0), .int .u64 (.lit 0), .int .u64 (.lit 0), .int .i64 (.lit 0), .int .i64 (.lit 0), .int .i8 (.lit 0), .int .u64 (.lit 0), .int .u64 (.lit 0), .int .i64 (.lit 0), .int .i64 (.lit 0), .int .u64 (.lit 0), .int .u64 (.lit 0), .int .i64 (.lit 0), .int .i64 (.lit 0)], [], some (11, 31), none, false, false, none, 792, false⟩),
 (33, ⟨true, 72, [.int .i8 (.lit 0), .int .u64 (.lit 0), .int .u64 (.lit 0), .int .i64 (.lit 0), .int .i64 (.lit 0), .int .u64 (.lit 0), .int .u64 (.lit 0), .int .i64 (.lit 0), .int .i64 (.lit 0), .int .i8 (.lit 0), .int .u64 (.lit 0), .int .u64 (.lit 0), .int .i64 (.lit 0), .int .i64 (.lit 0), .int .u64 (.lit 0), .int .u64 (.lit 0), .int .i64 (.lit 0), .int .i64 (.lit 0), .int .i8 (.lit 0), .int .u64 (.lit 0), .int .u64 (.lit 0), .int .i64 (.lit 0), .int .i64 (.lit 0), .int .u64 (.lit 0), .int .u64 (.lit 0), .int .i64 (.lit 0), .int .i64 (.lit 0), .int .i8 (.lit 0), .int .u64 (.lit 0), .int .u64 (.lit 0), .int .i64 (.lit 0), .int .i64 (.lit 0), .int .u64 (.lit 0), .int .u64 (.lit 0), .int .i64 (.lit 0), .int .i64 (.lit 0), .int .i8 (.lit 0), .int .u64 (.lit 0), .int .u64 (.lit 0), .int .i64 (.lit 0), .int .i64 (.lit 0), .int .u64 (.lit 0), .int .u64 (.lit 0), .int .i64 (.lit 0), .int .i64 (.lit 0), .int .i8 (.lit 0), .int .u64 (.lit 0), .int .u64 (.lit 0), .int .i64 (.lit 0), .int .i64 (.lit 0), .int .u64 (.lit 0), .int .u64 (.lit 0), .int .i64 (.lit 0), .int .i64 (.lit 0), .int .i8 (.lit 0), .int .u64 (.lit 0), .int .u64 (.lit 0), .int .i64 (.lit 0), .int .i64 (.lit 0), .int .u64 (.lit 0), .int .u64 (.lit 0), .int .i64 (.lit 0), .int .i64 (.lit 0), .int .i8 (.lit 0), .int .u64 (.lit 0), .int .u64 (.lit 0), .int .i64 (.lit 0), .int .i64 (.lit 0), .int .u64 (.lit 0), .int .u64 (.lit 0), .int .i64 (.lit 0), .int .i64 (.lit 0)], [], some (8, 31), none, false, false, none, 576, false⟩),
 (35, ⟨true, 171, [.int .i8 (.lit 0), .int .u64 (.lit 0), .int .u64 (.lit 0), .int .i64 (.lit 0), .int .i64 (.lit 0), .int .u64 (.lit 0), .int .u64 (.lit 0), .int .i64 (.lit 0), .int .i64 (.lit 0), .int .i8 (.lit 0), .int .u64 (.lit 0), .int .u64 (.lit 0), .int .i64 (.lit 0), .int .i64 (.lit 0), .int .u64 (.lit 0), .int .u64 (.lit 0), .int .i64 (.lit 0), .int .i64 (.lit 0), .int .i8 (.lit 0), .int .u64 (.lit 0), .int .u64 (.lit 0), .int .i64 (.lit 0), .int .i64 (.lit 0), .int .u64 (.lit 0), .int .u64 (.lit 0), .int .i64 (.lit 0), .int .i64 (.lit 0), .int .i8 (.lit 0), .int .u64 (.lit 0), .int .u64 (.lit 0), .int .i64 (.lit 0), .int .i64 (.lit 0), .int .u64 (.lit 0), .int .u64 (.lit 0), .int .i64 (.lit 0), .int .i64 (.lit 0), .int .i8 (.lit 0), .int .u64 (.lit 0), .int .u64 (.lit 0), .int .i64 (.lit 0), .int .i64 (.lit 0), .int .u64 (.lit 0), .int .u64 (.lit 0), .int .i64 (.lit 0), .int .i64 (.lit 0), .int .i8 (.lit 0), .int .u64 (.lit 0), .int .u64 (.lit 0), .int .i64 (.lit 0), .int .i64 (.lit 0), .int .u64 (.lit 0), .int .u64 (.lit 0), .int .i64 (.lit 0), .int .i64 (.lit 0), .int .i8 (.lit 0), .int .u64 (.lit 0), .int .u64 (.lit 0), .int .i64 (.lit 0), .int .i64 (.lit 0), .int .u64 (.lit 0), .int .u64 (.lit 0), .int .i64 (.lit 0), .int .i64 (.lit 0), .int .i8 (.lit 0), .int .u64 (.lit 0), .int .u64 (.lit 0), .int .i64 (.lit 0), .int .i64 (.lit 0), .int .u64 (.lit 0), .int .u64 (.lit 0), .int .i64 (.lit 0), .int .i64 (.lit 0), .int .i8 (.lit 0), .int .u64 (.lit 0), .int .u64 (.lit 0), .int .i64 (.lit 0), .int .i64 (.lit 0), .int .u64 (.lit 0), .int .u64 (.lit 0), .int .i64 (.lit 0), .int .i64 (.lit 0), .int .i8 (.lit 0), .int .u64 (.lit 0), .int .u64 (.lit 0), .int .i64 (.lit 0), .int .i64 (.lit 0), .int .u64 (.lit 0), .int .u64 (.lit 0), .int .i64 (.lit 0), .int .i64 (.lit 0), .int .i8 (.lit 0), .int .u64 (.lit 0), .int .u64 (.lit 0), .int .i64 (.lit 0), .int .i64 (.lit 0), .int .u64 (.lit 0), .int .u64 (.lit 0), .int .i64 (.lit 0), .int .i64 (.lit 0), .int .i8 (.lit 0), .int .u64 (.lit 0), .int .u64 (.lit 0), .int .i64 (.lit 0), .int .i64 (.lit 0), .int .u64 (.lit 0), .int .u64 (.lit 0), .int .i64 (.lit 0), .int .i64 (.lit 0), .int .i8 (.lit 0), .int .u64 (.lit 0), .int .u64 (.lit 0), .int .i64 (.lit 0), .int .i64 (.lit 0), .int .u64 (.lit 0), .int .u64 (.lit 0), .int .i64 (.lit 0), .int .i64 (.lit 0), .int .i8 (.lit 0), .int .u64 (.lit 0), .int .u64 (.lit 0), .int .i64 (.lit 0), .int .i64 (.lit 0), .int .u64 (.lit 0), .int .u64 (.lit 0), .int .i64 (.lit 0), .int .i64 (.lit 0), .int .i8 (.lit 0), .int .u64 (.lit 0), .int .u64 (.lit 0), .int .i64 (.lit 0), .int .i64 (.lit 0), .int .u64 (.lit 0), .int .u64 (.lit 0), .int .i64 (.lit 0), .int .i64 (.lit 0), .int .i8 (.lit 0), .int .u64 (.lit 0), .int .u64 (.lit 0), .int .i64 (.lit 0), .int .i64 (.lit 0), .int .u64 (.lit 0), .int .u64 (.lit 0), .int .i64 (.lit 0), .int .i64 (.lit 0), .int .i8 (.lit 0), .int .u64 (.lit 0), .int .u64 (.lit 0), .int .i64 (.lit 0), .int .i64 (.lit 0), .int .u64 (.lit 0), .int .u64 (.lit 0), .int .i64 (.lit 0), .int .i64 (.lit 0), .int .i8 (.lit 0), .int .u64 (.lit 0), .int .u64 (.lit 0), .int .i64 (.lit 0), .int .i64 (.lit 0), .int .u64 (.lit 0), .int .u64 (.lit 0), .int .i64 (.lit 0), .int .i64 (.lit 0), .int .i8 (.lit 0), .int .u64 (.lit 0), .int .u64 (.lit 0), .int .i64 (.lit 0), .int .i64 (.lit 0), .int .u64 (.lit 0), .int .u64 (.lit 0), .int .i64 (.lit 0), .int .i64 (.lit 0)], [(0, 32), (99, 33)], none, none, false, false, none, 1368, false⟩)]
set_option maxRecDepth 100000 in
theorem tysck_SdM : (tys_SdM.all fun p => ckTI Try.prog p.1 p.2) = true := by kernel_rfl
theorem tyseq_SdM : (tys_SdM.all fun p => !p.2.eqok || ((Nat.beq p.1 29 && kindsC p.2.zero z_Sc) || (Nat.beq p.1 31 && kindsC p.2.zero z_Ty))) = true := by kernel_rfl
theorem tysok_SdM : ∀ t i, (t, i) ∈ tys_SdM → TIok Try.prog t i := by
  intro t i h
  have h1 := List.all_eq_true.1 tyseq_SdM (t, i) h
  have h2 : i.eqok = true → (t = 29 ∧ kindsC i.zero z_Sc = true) ∨ (t = 31 ∧ kindsC i.zero z_Ty = true) := by
    intro he
    simp only [he, Bool.not_true, Bool.false_or, Bool.or_eq_true, Bool.and_eq_true] at h1
    rcases h1 with h1 | h1
    · exact .inl ⟨Nat.eq_of_beq_eq_true h1.1, h1.2⟩
    · exact .inr (⟨Nat.eq_of_beq_eq_true h1.1, h1.2⟩)
  refine TIok_of (all_at (f := ckTI Try.prog) tysck_SdM h) (fun he => ?_) (fun he => ?_)
  · rcases h2 he with ⟨rfl, hs⟩ | ⟨rfl, hs⟩
    · exact fun vs us hv hu => eq_Sc vs us (kindsV_of hs hv) (kindsV_of hs hu)
    · exact fun vs us hv hu => eq_Ty vs us (kindsV_of hs hv) (kindsV_of hs hu)
  · rcases h2 he with ⟨rfl, hs⟩ | ⟨rfl, hs⟩
    · exact grd_Sc
    · exact grd_Ty
def sM_yptr (key : Nat) : Sm := ⟨68, key, [.agg kTy], [.one .bool], false⟩
def sV_yptr (t : Ty) : List Dt := [.z (b2i ((t.k == 2 || t.k == 3)))]
def sF_yptr : List Dt → List Dt
  | [.z x0, .z x1, .z x2, .z x3, .z x4, .z x5, .z x6, .z x7, .z x8] => sV_yptr ⟨x0, x1, x2, x3, x4, x5, x6, x7, x8⟩
  | _ => []
def sT_yptr : Tr :=
(.br (.eq (.var 0) (.lit 2))
(.leaf (.consb (.tt true) .nil))
(.leaf (.consb (.eq (.var 0) (.lit 3)) .nil)))
def sP_yptr : Spec := ⟨fun k => match k with | _ => fun _ => [], fun k => match k with | _ => fun _ => True⟩
set_option maxRecDepth 100000 in
theorem sR_yptr : treeIs tys_SdM [] [] [] [] 200 Try.f68 [.agg kTy] [.one .bool] false (v_Ty ([])) sT_yptr := ⟨by kernel_rfl, by kernel_rfl, by kernel_rfl⟩
set_option maxRecDepth 100000 in
set_option maxHeartbeats 8000000 in
theorem sX_yptr (t : Ty) (ht : Ty.ok t) (ρ : Env) (g : varsD ρ 0 (v_Ty ([])) = (d_Ty t ([]))) : sT_yptr.asks sP_yptr (fun ρ e => e.D ρ = sF_yptr (d_Ty t ([]))) ρ fun _ _ => False := by
  simp only [d_Ty, v_Ty, varsD, varD, List.cons.injEq, Dt.z.injEq, Dt.l.injEq, b2i_eq_iff, Nat.reduceAdd, and_true] at g
  simp only [sT_yptr, sP_yptr, d_Ty, sF_yptr, sV_yptr, Tr.asks, upd_same, okDs, okD, eqs, E.I, E.B, E.L, E.R, E.D, E.vs, dI, dB, dL, varD, varsD, List.getElem?_cons_zero, List.getElem?_cons_succ, List.cons_append, List.nil_append, Nat.zero_add, Nat.add_zero, Nat.reduceAdd, and_true, true_and, b2i_one, -eq_self, etasX, g]
  refine ⟨fun c0 => ?_, fun c0 => ?_⟩
  · simp_all
  · simp_all
theorem sK_yptr {sp : Spec} {key : Nat} (hF : sp.F key = sF_yptr) (hP : sp.pre key = fun _ => True := by rfl) : SmOk Try.prog sp (sM_yptr key) :=
  fun_ok (s := sM_yptr key) hF hP (by kernel_rfl) tysok_SdM (sm0) Try.func68 fn0 sR_yptr (.inl rfl) (for_Ty fun q0 gq0 => fun  hp ρ g => sX_yptr q0 gq0 ρ g)
def sM_ywith (key : Nat) : Sm := ⟨42, key, [.agg kTy, .agg kTy], [.one .bool], false⟩
def sV_ywith (a : Ty) (b : Ty) : List Dt := [.z (b2i (twi a b))]
def sF_ywith : List Dt → List Dt
  | [.z x0, .z x1, .z x2, .z x3, .z x4, .z x5, .z x6, .z x7, .z x8, .z x9, .z x10, .z x11, .z x12, .z x13, .z x14, .z x15, .z x16, .z x17] => sV_ywith ⟨x0, x1, x2, x3, x4, x5, x6, x7, x8⟩ ⟨x9, x10, x11, x12, x13, x14, x15, x16, x17⟩
  | _ => []
def sT_ywith : Tr :=
(.br (.eq (.var 9) (.lit 0))
(.leaf (.consb (.tt true) .nil))
(.br (.eq (.var 0) (.lit 0))
(.leaf (.consb (.tt false) .nil))
(.call 0 (kTy) .nil 18
(.br (.eq (.var 9) (.var 18))
(.br (.eq (.var 10) (.var 19))
(.br (.eq (.var 11) (.var 20))
(.br (.eq (.var 12) (.var 21))
(.br (.eq (.var 13) (.var 22))
(.br (.eq (.var 14) (.var 23))
(.br (.eq (.var 15) (.var 24))
(.br (.eq (.var 16) (.var 25))
(.br (.eq (.var 17) (.var 26))
(.leaf (.consb (.tt true) .nil))
(.br (.eq (.var 0) (.var 9))
(.call 2 ([.bool]) (.vs 0 9 .nil) 27
(.br (.bvar 27)
(.br (.lt (.var 7) (.var 16))
(.leaf (.consb (.tt false) .nil))
(.leaf (.consb (.not (.lt (.var 17) (.var 8))) .nil)))
(.call 1 ([.bool]) (.vs 1 6 (.vs 10 6 .nil)) 28
(.leaf (.consb (.bvar 28) .nil)))))
(.leaf (.consb (.tt false) .nil))))
(.br (.eq (.var 0) (.var 9))
(.call 2 ([.bool]) (.vs 0 9 .nil) 27
(.br (.bvar 27)
(.br (.lt (.var 7) (.var 16))
(.leaf (.consb (.tt false) .nil))
(.leaf (.consb (.not (.lt (.var 17) (.var 8))) .nil)))
(.call 1 ([.bool]) (.vs 1 6 (.vs 10 6 .nil)) 28
(.leaf (.consb (.bvar 28) .nil)))))
(.leaf (.consb (.tt false) .nil))))
(.br (.eq (.var 0) (.var 9))
(.call 2 ([.bool]) (.vs 0 9 .nil) 27
(.br (.bvar 27)
(.br (.lt (.var 7) (.var 16))
(.leaf (.consb (.tt false) .nil))
(.leaf (.consb (.not (.lt (.var 17) (.var 8))) .nil)))
(.call 1 ([.bool]) (.vs 1 6 (.vs 10 6 .nil)) 28
(.leaf (.consb (.bvar 28) .nil)))))
(.leaf (.consb (.tt false) .nil))))
(.br (.eq (.var 0) (.var 9))
(.call 2 ([.bool]) (.vs 0 9 .nil) 27
(.br (.bvar 27)
(.br (.lt (.var 7) (.var 16))
(.leaf (.consb (.tt false) .nil))
(.leaf (.consb (.not (.lt (.var 17) (.var 8))) .nil)))
(.call 1 ([.bool]) (.vs 1 6 (.vs 10 6 .nil)) 28
(.leaf (.consb (.bvar 28) .nil)))))
(.leaf (.consb (.tt false) .nil))))
(.br (.eq (.var 0) (.var 9))
(.call 2 ([.bool]) (.vs 0 9 .nil) 27
(.br (.bvar 27)
(.br (.lt (.var 7) (.var 16))
(.leaf (.consb (.tt false) .nil))
(.leaf (.consb (.not (.lt (.var 17) (.var 8))) .nil)))
(.call 1 ([.bool]) (.vs 1 6 (.vs 10 6 .nil)) 28
(.leaf (.consb (.bvar 28) .nil)))))
(.leaf (.consb (.tt false) .nil))))
(.br (.eq (.var 0) (.var 9))
(.call 2 ([.bool]) (.vs 0 9 .nil) 27
(.br (.bvar 27)
(.br (.lt (.var 7) (.var 16))
(.leaf (.consb (.tt false) .nil))
(.leaf (.consb (.not (.lt (.var 17) (.var 8))) .nil)))
(.call 1 ([.bool]) (.vs 1 6 (.vs 10 6 .nil)) 28
(.leaf (.consb (.bvar 28) .nil)))))
(.leaf (.consb (.tt false) .nil))))
(.br (.eq (.var 0) (.var 9))
(.call 2 ([.bool]) (.vs 0 9 .nil) 27
(.br (.bvar 27)
(.br (.lt (.var 7) (.var 16))
(.leaf (.consb (.tt false) .nil))
(.leaf (.consb (.not (.lt (.var 17) (.var 8))) .nil)))
(.call 1 ([.bool]) (.vs 1 6 (.vs 10 6 .nil)) 28
(.leaf (.consb (.bvar 28) .nil)))))
(.leaf (.consb (.tt false) .nil))))
(.br (.eq (.var 0) (.var 9))
(.call 2 ([.bool]) (.vs 0 9 .nil) 27
(.br (.bvar 27)
(.br (.lt (.var 7) (.var 16))
(.leaf (.consb (.tt false) .nil))
(.leaf (.consb (.not (.lt (.var 17) (.var 8))) .nil)))
(.call 1 ([.bool]) (.vs 1 6 (.vs 10 6 .nil)) 28
(.leaf (.consb (.bvar 28) .nil)))))
(.leaf (.consb (.tt false) .nil))))
(.br (.eq (.var 0) (.var 9))
(.call 2 ([.bool]) (.vs 0 9 .nil) 27
(.br (.bvar 27)
(.br (.lt (.var 7) (.var 16))
(.leaf (.consb (.tt false) .nil))
(.leaf (.consb (.not (.lt (.var 17) (.var 8))) .nil)))
(.call 1 ([.bool]) (.vs 1 6 (.vs 10 6 .nil)) 28
(.leaf (.consb (.bvar 28) .nil)))))
(.leaf (.consb (.tt false) .nil)))))))
def sP_ywith : Spec := ⟨fun k => match k with | 0 => sF_yscal | 1 => sF_win | 2 => sF_yptr | _ => fun _ => [], fun k => match k with | _ => fun _ => True⟩
set_option maxRecDepth 100000 in
theorem sR_ywith : treeIs tys_SdM [sM_yscal 0, sM_win 1, sM_yptr 2] [] [] [] 200 Try.f42 [.agg kTy, .agg kTy] [.one .bool] false (v_Ty ( v_Ty ([]))) sT_ywith := ⟨by kernel_rfl, by kernel_rfl, by kernel_rfl⟩
def sQ_ywith : List Dt → Prop
  | [.z x0, .z x1, .z x2, .z x3, .z x4, .z x5, .z x6, .z x7, .z x8, .z x9, .z x10, .z x11, .z x12, .z x13, .z x14, .z x15, .z x16, .z x17] => let f (a : Ty) (b : Ty) : Prop := a.k = 0 ∨ a.k = 1 ∨ a.k = 2 ∨ a.k = 3; f ⟨x0, x1, x2, x3, x4, x5, x6, x7, x8⟩ ⟨x9, x10, x11, x12, x13, x14, x15, x16, x17⟩
  | _ => False
set_option maxRecDepth 100000 in
set_option maxHeartbeats 8000000 in
theorem sX_ywith (a : Ty) (ha : Ty.ok a) (b : Ty) (hb : Ty.ok b) (hp : sQ_ywith (d_Ty a ( d_Ty b ([])))) (ρ : Env) (g : varsD ρ 0 (v_Ty ( v_Ty ([]))) = (d_Ty a ( d_Ty b ([])))) : sT_ywith.asks sP_ywith (fun ρ e => e.D ρ = sF_ywith (d_Ty a ( d_Ty b ([])))) ρ fun _ _ => False := by
  simp only [sQ_ywith, d_Ty, b2i_one, etasX] at hp
  simp only [d_Ty, v_Ty, varsD, varD, List.cons.injEq, Dt.z.injEq, Dt.l.injEq, b2i_eq_iff, Nat.reduceAdd, and_true] at g
  simp only [sT_ywith, sP_ywith, d_Ty, kTy, sF_yscal, sF_win, sF_yptr, sV_win, sV_yptr, sF_ywith, sV_ywith, Tr.asks, upd_same, okDs, okD, eqs, E.I, E.B, E.L, E.R, E.D, E.vs, dI, dB, dL, varD, varsD, List.getElem?_cons_zero, List.getElem?_cons_succ, List.cons_append, List.nil_append, Nat.zero_add, Nat.add_zero, Nat.reduceAdd, and_true, true_and, b2i_one, -eq_self, etasX, g]
  refine ⟨fun c0 => ?_, fun c0 => ?_⟩
  · rw [twi_0 c0]
  refine ⟨fun c1 => ?_, fun c1 => ?_⟩
  · rw [twi_a c0 c1]
  intro e; (try simp only [e, etasX, -eq_self]); clear e
  refine ⟨fun c2 => ?_, fun c2 => ?_⟩
  refine ⟨fun c3 => ?_, fun c3 => ?_⟩
  refine ⟨fun c4 => ?_, fun c4 => ?_⟩
  refine ⟨fun c5 => ?_, fun c5 => ?_⟩
  refine ⟨fun c6 => ?_, fun c6 => ?_⟩
  refine ⟨fun c7 => ?_, fun c7 => ?_⟩
  refine ⟨fun c8 => ?_, fun c8 => ?_⟩
  refine ⟨fun c9 => ?_, fun c9 => ?_⟩
  refine ⟨fun c10 => ?_, fun c10 => ?_⟩
  · rw [twi_s c0 c1 (by unfold tise; simp only [c2, c3, c4, c5, c6, c7, c8, c9, c10, Bool.and_self])]
  refine ⟨fun c11 => ?_, fun c11 => ?_⟩
  intro e; (try simp only [e, etasX, -eq_self]); clear e
  refine ⟨fun c12 => ?_, fun c12 => ?_⟩
  refine ⟨fun c13 => ?_, fun c13 => ?_⟩
  · have hk := hp
    have hz := nez c1
    have ha1 : (a.k == 1) = false := (by rcases hk with q | q | q | q <;> first | exact absurd q hz | (rw [q] at c12 ⊢; first | rfl | (exact absurd c12 (by decide))))
    rw [twi_p c0 c1 (by unfold tise; simp only [c10, Bool.false_and, Bool.and_false]) c11 ha1, le2_no c13]
  · have hk := hp
    have hz := nez c1
    have ha1 : (a.k == 1) = false := (by rcases hk with q | q | q | q <;> first | exact absurd q hz | (rw [q] at c12 ⊢; first | rfl | (exact absurd c12 (by decide))))
    rw [twi_p c0 c1 (by unfold tise; simp only [c10, Bool.false_and, Bool.and_false]) c11 ha1, le2_yes c13]
  intro e; (try simp only [e, etasX, -eq_self]); clear e
  · have hk := hp
    have hz := nez c1
    have ha1 : (a.k == 1) = true := (by rcases hk with q | q | q | q <;> first | exact absurd q hz | (rw [q] at c12 ⊢; first | rfl | (exact absurd c12 (by decide))))
    rw [twi_1 c0 c1 (by unfold tise; simp only [c10, Bool.false_and, Bool.and_false]) c11 ha1]
  · rw [twi_n c0 c1 (by unfold tise; simp only [c10, Bool.false_and, Bool.and_false]) c11]
  refine ⟨fun c14 => ?_, fun c14 => ?_⟩
  intro e; (try simp only [e, etasX, -eq_self]); clear e
  refine ⟨fun c15 => ?_, fun c15 => ?_⟩
  refine ⟨fun c16 => ?_, fun c16 => ?_⟩
  · have hk := hp
    have hz := nez c1
    have ha1 : (a.k == 1) = false := (by rcases hk with q | q | q | q <;> first | exact absurd q hz | (rw [q] at c15 ⊢; first | rfl | (exact absurd c15 (by decide))))
    rw [twi_p c0 c1 (by unfold tise; simp only [c9, Bool.false_and, Bool.and_false]) c14 ha1, le2_no c16]
  · have hk := hp
    have hz := nez c1
    have ha1 : (a.k == 1) = false := (by rcases hk with q | q | q | q <;> first | exact absurd q hz | (rw [q] at c15 ⊢; first | rfl | (exact absurd c15 (by decide))))
    rw [twi_p c0 c1 (by unfold tise; simp only [c9, Bool.false_and, Bool.and_false]) c14 ha1, le2_yes c16]
  intro e; (try simp only [e, etasX, -eq_self]); clear e
  · have hk := hp
    have hz := nez c1
    have ha1 : (a.k == 1) = true := (by rcases hk with q | q | q | q <;> first | exact absurd q hz | (rw [q] at c15 ⊢; first | rfl | (exact absurd c15 (by decide))))
    rw [twi_1 c0 c1 (by unfold tise; simp only [c9, Bool.false_and, Bool.and_false]) c14 ha1]
  · rw [twi_n c0 c1 (by unfold tise; simp only [c9, Bool.false_and, Bool.and_false]) c14]
  refine ⟨fun c17 => ?_, fun c17 => ?_⟩
  intro e; (try simp only [e, etasX, -eq_self]); clear e
  refine ⟨fun c18 => ?_, fun c18 => ?_⟩
  refine ⟨fun c19 => ?_, fun c19 => ?_⟩
  · have hk := hp
    have hz := nez c1
    have ha1 : (a.k == 1) = false := (by rcases hk with q | q | q | q <;> first | exact absurd q hz | (rw [q] at c18 ⊢; first | rfl | (exact absurd c18 (by decide))))
    rw [twi_p c0 c1 (by unfold tise; simp only [c8, Bool.false_and, Bool.and_false]) c17 ha1, le2_no c19]
  · have hk := hp
    have hz := nez c1
    have ha1 : (a.k == 1) = false := (by rcases hk with q | q | q | q <;> first | exact absurd q hz | (rw [q] at c18 ⊢; first | rfl | (exact absurd c18 (by decide))))
    rw [twi_p c0 c1 (by unfold tise; simp only [c8, Bool.false_and, Bool.and_false]) c17 ha1, le2_yes c19]
  intro e; (try simp only [e, etasX, -eq_self]); clear e
  · have hk := hp
    have hz := nez c1
    have ha1 : (a.k == 1) = true := (by rcases hk with q | q | q | q <;> first | exact absurd q hz | (rw [q] at c18 ⊢; first | rfl | (exact absurd c18 (by decide))))
    rw [twi_1 c0 c1 (by unfold tise; simp only [c8, Bool.false_and, Bool.and_false]) c17 ha1]
  · rw [twi_n c0 c1 (by unfold tise; simp only [c8, Bool.false_and, Bool.and_false]) c17]
  refine ⟨fun c20 => ?_, fun c20 => ?_⟩
  intro e; (try simp only [e, etasX, -eq_self]); clear e
  refine ⟨fun c21 => ?_, fun c21 => ?_⟩
  refine ⟨fun c22 => ?_, fun c22 => ?_⟩
  · have hk := hp
    have hz := nez c1
    have ha1 : (a.k == 1) = false := (by rcases hk with q | q | q | q <;> first | exact absurd q hz | (rw [q] at c21 ⊢; first | rfl | (exact absurd c21 (by decide))))
    rw [twi_p c0 c1 (by unfold tise; simp only [c7, Bool.false_and, Bool.and_false]) c20 ha1, le2_no c22]
  · have hk := hp
    have hz := nez c1
    have ha1 : (a.k == 1) = false := (by rcases hk with q | q | q | q <;> first | exact absurd q hz | (rw [q] at c21 ⊢; first | rfl | (exact absurd c21 (by decide))))
    rw [twi_p c0 c1 (by unfold tise; simp only [c7, Bool.false_and, Bool.and_false]) c20 ha1, le2_yes c22]
  intro e; (try simp only [e, etasX, -eq_self]); clear e
  · have hk := hp
    have hz := nez c1
    have ha1 : (a.k == 1) = true := (by rcases hk with q | q | q | q <;> first | exact absurd q hz | (rw [q] at c21 ⊢; first | rfl | (exact absurd c21 (by decide))))
    rw [twi_1 c0 c1 (by unfold tise; simp only [c7, Bool.false_and, Bool.and_false]) c20 ha1]
  · rw [twi_n c0 c1 (by unfold tise; simp only [c7, Bool.false_and, Bool.and_false]) c20]
  refine ⟨fun c23 => ?_, fun c23 => ?_⟩
  intro e; (try simp only [e, etasX, -eq_self]); clear e
  refine ⟨fun c24 => ?_, fun c24 => ?_⟩
  refine ⟨fun c25 => ?_, fun c25 => ?_⟩
  · have hk := hp
    have hz := nez c1
    have ha1 : (a.k == 1) = false := (by rcases hk with q | q | q | q <;> first | exact absurd q hz | (rw [q] at c24 ⊢; first | rfl | (exact absurd c24 (by decide))))
    rw [twi_p c0 c1 (by unfold tise; simp only [c6, Bool.false_and, Bool.and_false]) c23 ha1, le2_no c25]
  · have hk := hp
    have hz := nez c1
    have ha1 : (a.k == 1) = false := (by rcases hk with q | q | q | q <;> first | exact absurd q hz | (rw [q] at c24 ⊢; first | rfl | (exact absurd c24 (by decide))))
    rw [twi_p c0 c1 (by unfold tise; simp only [c6, Bool.false_and, Bool.and_false]) c23 ha1, le2_yes c25]
  intro e; (try simp only [e, etasX, -eq_self]); clear e
  · have hk := hp
    have hz := nez c1
    have ha1 : (a.k == 1) = true := (by rcases hk with q | q | q | q <;> first | exact absurd q hz | (rw [q] at c24 ⊢; first | rfl | (exact absurd c24 (by decide))))
    rw [twi_1 c0 c1 (by unfold tise; simp only [c6, Bool.false_and, Bool.and_false]) c23 ha1]
  · rw [twi_n c0 c1 (by unfold tise; simp only [c6, Bool.false_and, Bool.and_false]) c23]
  refine ⟨fun c26 => ?_, fun c26 => ?_⟩
  intro e; (try simp only [e, etasX, -eq_self]); clear e
  refine ⟨fun c27 => ?_, fun c27 => ?_⟩
  refine ⟨fun c28 => ?_, fun c28 => ?_⟩
  · have hk := hp
    have hz := nez c1
    have ha1 : (a.k == 1) = false := (by rcases hk with q | q | q | q <;> first | exact absurd q hz | (rw [q] at c27 ⊢; first | rfl | (exact absurd c27 (by decide))))
    rw [twi_p c0 c1 (by unfold tise; simp only [c5, Bool.false_and, Bool.and_false]) c26 ha1, le2_no c28]
  · have hk := hp
    have hz := nez c1
    have ha1 : (a.k == 1) = false := (by rcases hk with q | q | q | q <;> first | exact absurd q hz | (rw [q] at c27 ⊢; first | rfl | (exact absurd c27 (by decide))))
    rw [twi_p c0 c1 (by unfold tise; simp only [c5, Bool.false_and, Bool.and_false]) c26 ha1, le2_yes c28]
  intro e; (try simp only [e, etasX, -eq_self]); clear e
  · have hk := hp
    have hz := nez c1
    have ha1 : (a.k == 1) = true := (by rcases hk with q | q | q | q <;> first | exact absurd q hz | (rw [q] at c27 ⊢; first | rfl | (exact absurd c27 (by decide))))
    rw [twi_1 c0 c1 (by unfold tise; simp only [c5, Bool.false_and, Bool.and_false]) c26 ha1]
  · rw [twi_n c0 c1 (by unfold tise; simp only [c5, Bool.false_and, Bool.and_false]) c26]
  refine ⟨fun c29 => ?_, fun c29 => ?_⟩
  intro e; (try simp only [e, etasX, -eq_self]); clear e
  refine ⟨fun c30 => ?_, fun c30 => ?_⟩
  refine ⟨fun c31 => ?_, fun c31 => ?_⟩
  · have hk := hp
    have hz := nez c1
    have ha1 : (a.k == 1) = false := (by rcases hk with q | q | q | q <;> first | exact absurd q hz | (rw [q] at c30 ⊢; first | rfl | (exact absurd c30 (by decide))))
    rw [twi_p c0 c1 (by unfold tise; simp only [c4, Bool.false_and, Bool.and_false]) c29 ha1, le2_no c31]
  · have hk := hp
    have hz := nez c1
    have ha1 : (a.k == 1) = false := (by rcases hk with q | q | q | q <;> first | exact absurd q hz | (rw [q] at c30 ⊢; first | rfl | (exact absurd c30 (by decide))))
    rw [twi_p c0 c1 (by unfold tise; simp only [c4, Bool.false_and, Bool.and_false]) c29 ha1, le2_yes c31]
  intro e; (try simp only [e, etasX, -eq_self]); clear e
  · have hk := hp
    have hz := nez c1
    have ha1 : (a.k == 1) = true := (by rcases hk with q | q | q | q <;> first | exact absurd q hz | (rw [q] at c30 ⊢; first | rfl | (exact absurd c30 (by decide))))
    rw [twi_1 c0 c1 (by unfold tise; simp only [c4, Bool.false_and, Bool.and_false]) c29 ha1]
  · rw [twi_n c0 c1 (by unfold tise; simp only [c4, Bool.false_and, Bool.and_false]) c29]
  refine ⟨fun c32 => ?_, fun c32 => ?_⟩
  intro e; (try simp only [e, etasX, -eq_self]); clear e
  refine ⟨fun c33 => ?_, fun c33 => ?_⟩
  refine ⟨fun c34 => ?_, fun c34 => ?_⟩
  · have hk := hp
    have hz := nez c1
    have ha1 : (a.k == 1) = false := (by rcases hk with q | q | q | q <;> first | exact absurd q hz | (rw [q] at c33 ⊢; first | rfl | (exact absurd c33 (by decide))))
    rw [twi_p c0 c1 (by unfold tise; simp only [c3, Bool.false_and, Bool.and_false]) c32 ha1, le2_no c34]
  · have hk := hp
    have hz := nez c1
    have ha1 : (a.k == 1) = false := (by rcases hk with q | q | q | q <;> first | exact absurd q hz | (rw [q] at c33 ⊢; first | rfl | (exact absurd c33 (by decide))))
    rw [twi_p c0 c1 (by unfold tise; simp only [c3, Bool.false_and, Bool.and_false]) c32 ha1, le2_yes c34]
  intro e; (try simp only [e, etasX, -eq_self]); clear e
  · have hk := hp
    have hz := nez c1
    have ha1 : (a.k == 1) = true := (by rcases hk with q | q | q | q <;> first | exact absurd q hz | (rw [q] at c33 ⊢; first | rfl | (exact absurd c33 (by decide))))
    rw [twi_1 c0 c1 (by unfold tise; simp only [c3, Bool.false_and, Bool.and_false]) c32 ha1]
  · rw [twi_n c0 c1 (by unfold tise; simp only [c3, Bool.false_and, Bool.and_false]) c32]
  refine ⟨fun c35 => ?_, fun c35 => ?_⟩
  intro e; (try simp only [e, etasX, -eq_self]); clear e
  refine ⟨fun c36 => ?_, fun c36 => ?_⟩
  refine ⟨fun c37 => ?_, fun c37 => ?_⟩
  · have hk := hp
    have hz := nez c1
    have ha1 : (a.k == 1) = false := (by rcases hk with q | q | q | q <;> first | exact absurd q hz | (rw [q] at c36 ⊢; first | rfl | (exact absurd c36 (by decide))))
    rw [twi_p c0 c1 (by unfold tise; simp only [c2, Bool.false_and, Bool.and_false]) c35 ha1, le2_no c37]
  · have hk := hp
    have hz := nez c1
    have ha1 : (a.k == 1) = false := (by rcases hk with q | q | q | q <;> first | exact absurd q hz | (rw [q] at c36 ⊢; first | rfl | (exact absurd c36 (by decide))))
    rw [twi_p c0 c1 (by unfold tise; simp only [c2, Bool.false_and, Bool.and_false]) c35 ha1, le2_yes c37]
  intro e; (try simp only [e, etasX, -eq_self]); clear e
  · have hk := hp
    have hz := nez c1
    have ha1 : (a.k == 1) = true := (by rcases hk with q | q | q | q <;> first | exact absurd q hz | (rw [q] at c36 ⊢; first | rfl | (exact absurd c36 (by decide))))
    rw [twi_1 c0 c1 (by unfold tise; simp only [c2, Bool.false_and, Bool.and_false]) c35 ha1]
  · rw [twi_n c0 c1 (by unfold tise; simp only [c2, Bool.false_and, Bool.and_false]) c35]
theorem sK_ywith {sp : Spec} {key : Nat} (hF : sp.F key = sF_ywith) (hP : sp.pre key = sQ_ywith) : SmOk Try.prog sp (sM_ywith key) :=
  fun_ok (s := sM_ywith key) hF hP (by kernel_rfl) tysok_SdM (smc (sK_yscal rfl) (smc (sK_win rfl) (smc (sK_yptr rfl) sm0))) Try.func42 fn0 sR_ywith (.inl rfl) (for_Ty fun q0 gq0 => for_Ty fun q1 gq1 => fun  hp ρ g => sX_ywith q0 gq0 q1 gq1 hp ρ g)
def sM_yin (key : Nat) : Sm := ⟨13, key, [.agg kSta, .agg kSta], [.one .bool], false⟩
def sV_yin (a : Sta) (b : Sta) : List Dt := [.z (b2i (sin a b))]
def sF_yin : List Dt → List Dt := rd_Sta fun a => rd_Sta fun b => fun _ => sV_yin a b
def sT_yin : Tr :=
(.call 0 ([.bool]) (.vs 0 171 .nil) 342
(.br (.bvar 342)
(.call 0 ([.bool]) (.vs 171 171 .nil) 343
(.br (.bvar 343)
(.call 1 ([.bool]) (.vs 0 9 (.vs 171 9 .nil)) 344
(.br (.bvar 344)
(.call 1 ([.bool]) (.vs 9 9 (.vs 180 9 .nil)) 345
(.br (.bvar 345)
(.call 1 ([.bool]) (.vs 18 9 (.vs 189 9 .nil)) 346
(.br (.bvar 346)
(.call 1 ([.bool]) (.vs 27 9 (.vs 198 9 .nil)) 347
(.br (.bvar 347)
(.call 1 ([.bool]) (.vs 36 9 (.vs 207 9 .nil)) 348
(.br (.bvar 348)
(.call 1 ([.bool]) (.vs 45 9 (.vs 216 9 .nil)) 349
(.br (.bvar 349)
(.call 1 ([.bool]) (.vs 54 9 (.vs 225 9 .nil)) 350
(.br (.bvar 350)
(.call 1 ([.bool]) (.vs 63 9 (.vs 234 9 .nil)) 351
(.br (.bvar 351)
(.call 1 ([.bool]) (.vs 72 9 (.vs 243 9 .nil)) 352
(.br (.bvar 352)
(.call 1 ([.bool]) (.vs 81 9 (.vs 252 9 .nil)) 353
(.br (.bvar 353)
(.call 1 ([.bool]) (.vs 90 9 (.vs 261 9 .nil)) 354
(.br (.bvar 354)
(.call 1 ([.bool]) (.vs 99 9 (.vs 270 9 .nil)) 355
(.br (.bvar 355)
(.call 1 ([.bool]) (.vs 108 9 (.vs 279 9 .nil)) 356
(.br (.bvar 356)
(.call 1 ([.bool]) (.vs 117 9 (.vs 288 9 .nil)) 357
(.br (.bvar 357)
(.call 1 ([.bool]) (.vs 126 9 (.vs 297 9 .nil)) 358
(.br (.bvar 358)
(.call 1 ([.bool]) (.vs 135 9 (.vs 306 9 .nil)) 359
(.br (.bvar 359)
(.call 1 ([.bool]) (.vs 144 9 (.vs 315 9 .nil)) 360
(.br (.bvar 360)
(.call 1 ([.bool]) (.vs 153 9 (.vs 324 9 .nil)) 361
(.br (.bvar 361)
(.call 1 ([.bool]) (.vs 162 9 (.vs 333 9 .nil)) 362
(.br (.bvar 362)
(.leaf (.consb (.tt true) .nil))
(.leaf (.consb (.tt false) .nil))))
(.leaf (.consb (.tt false) .nil))))
(.leaf (.consb (.tt false) .nil))))
(.leaf (.consb (.tt false) .nil))))
(.leaf (.consb (.tt false) .nil))))
(.leaf (.consb (.tt false) .nil))))
(.leaf (.consb (.tt false) .nil))))
(.leaf (.consb (.tt false) .nil))))
(.leaf (.consb (.tt false) .nil))))
(.leaf (.consb (.tt false) .nil))))
(.leaf (.consb (.tt false) .nil))))
(.leaf (.consb (.tt false) .nil))))
(.leaf (.consb (.tt false) .nil))))
(.leaf (.consb (.tt false) .nil))))
(.leaf (.consb (.tt false) .nil))))
(.leaf (.consb (.tt false) .nil))))
(.leaf (.consb (.tt false) .nil))))
(.leaf (.consb (.tt false) .nil))))
(.leaf (.consb (.tt false) .nil))))
(.leaf (.consb (.tt false) .nil))))
(.leaf (.consb (.tt false) .nil))))
def sP_yin : Spec := ⟨fun k => match k with | 0 => sF_ymay | 1 => sF_ywith | _ => fun _ => [], fun k => match k with | 1 => sQ_ywith | _ => fun _ => True⟩
set_option maxRecDepth 100000 in
theorem sR_yin : treeIs tys_SdM [sM_ymay 0, sM_ywith 1] [] [] [] 400 Try.f13 [.agg kSta, .agg kSta] [.one .bool] false (v_Sta ( v_Sta ([]))) sT_yin := ⟨by kernel_rfl, by kernel_rfl, by kernel_rfl⟩
set_option maxRecDepth 100000 in
set_option maxHeartbeats 8000000 in
theorem sX_yin (a : Sta) (ha : Sta.ok a) (b : Sta) (hb : Sta.ok b) (ρ : Env) (g : varsD ρ 0 (v_Sta ( v_Sta ([]))) = (d_Sta a ( d_Sta b ([])))) : sT_yin.asks sP_yin (fun ρ e => e.D ρ = sF_yin (d_Sta a ( d_Sta b ([])))) ρ fun _ _ => False := by
  simp only [sF_yin, rd_Sta_d, rd_Ty_d, rdZ, rdB]
  simp only [d_Sta, d_Ty, v_Sta, v_Ty, varsD, varD, List.cons.injEq, Dt.z.injEq, Dt.l.injEq, b2i_eq_iff, Nat.reduceAdd, and_true] at g
  simp (maxSteps := 10000000) only [sT_yin, sP_yin, d_Sta, d_Ty, rd_Sta, rd_Ty, sF_ymay, sF_ywith, sV_ymay, sV_ywith, sF_yin, sV_yin, sQ_ywith, Tr.asks, upd_same, okDs, okD, eqs, E.I, E.B, E.L, E.R, E.D, E.vs, dI, dB, dL, varD, varsD, List.getElem?_cons_zero, List.getElem?_cons_succ, List.cons_append, List.nil_append, Nat.zero_add, Nat.add_zero, Nat.reduceAdd, and_true, true_and, b2i_one, -eq_self, etasX, g]
  intro e; (try simp only [e, etasX, -eq_self]); clear e
  refine ⟨fun c0 => ?_, fun c0 => ?_⟩
  intro e; (try simp only [e, etasX, -eq_self]); clear e
  refine ⟨fun c1 => ?_, fun c1 => ?_⟩
  refine ⟨?_, ?_⟩
  · exact tok_kinds (smay_r0 c0)
  intro e; (try simp only [e, etasX, -eq_self]); clear e
  refine ⟨fun c2 => ?_, fun c2 => ?_⟩
  refine ⟨?_, ?_⟩
  · exact tok_kinds (smay_r1 c0)
  intro e; (try simp only [e, etasX, -eq_self]); clear e
  refine ⟨fun c3 => ?_, fun c3 => ?_⟩
  refine ⟨?_, ?_⟩
  · exact tok_kinds (smay_r2 c0)
  intro e; (try simp only [e, etasX, -eq_self]); clear e
  refine ⟨fun c4 => ?_, fun c4 => ?_⟩
  refine ⟨?_, ?_⟩
  · exact tok_kinds (smay_r3 c0)
  intro e; (try simp only [e, etasX, -eq_self]); clear e
  refine ⟨fun c5 => ?_, fun c5 => ?_⟩
  refine ⟨?_, ?_⟩
  · exact tok_kinds (smay_r4 c0)
  intro e; (try simp only [e, etasX, -eq_self]); clear e
  refine ⟨fun c6 => ?_, fun c6 => ?_⟩
  refine ⟨?_, ?_⟩
  · exact tok_kinds (smay_r5 c0)
  intro e; (try simp only [e, etasX, -eq_self]); clear e
  refine ⟨fun c7 => ?_, fun c7 => ?_⟩
  refine ⟨?_, ?_⟩
  · exact tok_kinds (smay_r6 c0)
  intro e; (try simp only [e, etasX, -eq_self]); clear e
  refine ⟨fun c8 => ?_, fun c8 => ?_⟩
  refine ⟨?_, ?_⟩
  · exact tok_kinds (smay_r7 c0)
  intro e; (try simp only [e, etasX, -eq_self]); clear e
  refine ⟨fun c9 => ?_, fun c9 => ?_⟩
  refine ⟨?_, ?_⟩
  · exact tok_kinds (smay_r8 c0)
  intro e; (try simp only [e, etasX, -eq_self]); clear e
  refine ⟨fun c10 => ?_, fun c10 => ?_⟩
  refine ⟨?_, ?_⟩
  · exact tok_kinds (smay_r9 c0)
  intro e; (try simp only [e, etasX, -eq_self]); clear e
  refine ⟨fun c11 => ?_, fun c11 => ?_⟩
  refine ⟨?_, ?_⟩
  · exact tok_kinds (smay_r10 c0)
  intro e; (try simp only [e, etasX, -eq_self]); clear e
  refine ⟨fun c12 => ?_, fun c12 => ?_⟩
  refine ⟨?_, ?_⟩
  · exact tok_kinds (smay_s0 c0)
  intro e; (try simp only [e, etasX, -eq_self]); clear e
  refine ⟨fun c13 => ?_, fun c13 => ?_⟩
  refine ⟨?_, ?_⟩
  · exact tok_kinds (smay_s1 c0)
  intro e; (try simp only [e, etasX, -eq_self]); clear e
  refine ⟨fun c14 => ?_, fun c14 => ?_⟩
  refine ⟨?_, ?_⟩
  · exact tok_kinds (smay_s2 c0)
  intro e; (try simp only [e, etasX, -eq_self]); clear e
  refine ⟨fun c15 => ?_, fun c15 => ?_⟩
  refine ⟨?_, ?_⟩
  · exact tok_kinds (smay_s3 c0)
  intro e; (try simp only [e, etasX, -eq_self]); clear e
  refine ⟨fun c16 => ?_, fun c16 => ?_⟩
  refine ⟨?_, ?_⟩
  · exact tok_kinds (smay_s4 c0)
  intro e; (try simp only [e, etasX, -eq_self]); clear e
  refine ⟨fun c17 => ?_, fun c17 => ?_⟩
  refine ⟨?_, ?_⟩
  · exact tok_kinds (smay_s5 c0)
  intro e; (try simp only [e, etasX, -eq_self]); clear e
  refine ⟨fun c18 => ?_, fun c18 => ?_⟩
  refine ⟨?_, ?_⟩
  · exact tok_kinds (smay_s6 c0)
  intro e; (try simp only [e, etasX, -eq_self]); clear e
  refine ⟨fun c19 => ?_, fun c19 => ?_⟩
  refine ⟨?_, ?_⟩
  · exact tok_kinds (smay_s7 c0)
  intro e; (try simp only [e, etasX, -eq_self]); clear e
  refine ⟨fun c20 => ?_, fun c20 => ?_⟩
  · simp only [sin, c0, c1, c2, c3, c4, c5, c6, c7, c8, c9, c10, c11, c12, c13, c14, c15, c16, c17, c18, c19, c20, Bool.and_self]
  · simp only [sin, c20, Bool.false_and, Bool.and_false]
  · simp only [sin, c19, Bool.false_and, Bool.and_false]
  · simp only [sin, c18, Bool.false_and, Bool.and_false]
  · simp only [sin, c17, Bool.false_and, Bool.and_false]
  · simp only [sin, c16, Bool.false_and, Bool.and_false]
  · simp only [sin, c15, Bool.false_and, Bool.and_false]
  · simp only [sin, c14, Bool.false_and, Bool.and_false]
  · simp only [sin, c13, Bool.false_and, Bool.and_false]
  · simp only [sin, c12, Bool.false_and, Bool.and_false]
  · simp only [sin, c11, Bool.false_and, Bool.and_false]
  · simp only [sin, c10, Bool.false_and, Bool.and_false]
  · simp only [sin, c9, Bool.false_and, Bool.and_false]
  · simp only [sin, c8, Bool.false_and, Bool.and_false]
  · simp only [sin, c7, Bool.false_and, Bool.and_false]
  · simp only [sin, c6, Bool.false_and, Bool.and_false]
  · simp only [sin, c5, Bool.false_and, Bool.and_false]
  · simp only [sin, c4, Bool.false_and, Bool.and_false]
  · simp only [sin, c3, Bool.false_and, Bool.and_false]
  · simp only [sin, c2, Bool.false_and, Bool.and_false]
  · simp only [sin, c1, Bool.false_and, Bool.and_false]
  · simp only [sin, c0, Bool.false_and, Bool.and_false]
theorem sK_yin {sp : Spec} {key : Nat} (hF : sp.F key = sF_yin) (hP : sp.pre key = fun _ => True := by rfl) : SmOk Try.prog sp (sM_yin key) :=
  fun_ok (s := sM_yin key) hF hP (by kernel_rfl) tysok_SdM (smc (sK_ymay rfl) (smc (sK_ywith rfl rfl) sm0)) Try.func13 fn0 sR_yin (.inl rfl) (for_Sta fun q0 gq0 => for_Sta fun q1 gq1 => fun  hp ρ g => sX_yin q0 gq0 q1 gq1 ρ g)
def sM_yjn (key : Nat) : Sm := ⟨66, key, [.agg kTy, .agg kTy, .one .bool], [.agg kTy], false⟩
def sV_yjn (a : Ty) (b : Ty) (t : Bool) : List Dt := d_Ty (tjoin t a b) ([])
def sF_yjn : List Dt → List Dt
  | [.z x0, .z x1, .z x2, .z x3, .z x4, .z x5, .z x6, .z x7, .z x8, .z x9, .z x10, .z x11, .z x12, .z x13, .z x14, .z x15, .z x16, .z x17, .z x18] => sV_yjn ⟨x0, x1, x2, x3, x4, x5, x6, x7, x8⟩ ⟨x9, x10, x11, x12, x13, x14, x15, x16, x17⟩ (x18 == 1)
  | _ => []
def sT_yjn : Tr :=
(.br (.eq (.var 0) (.lit 0))
(.leaf (.cons (.lit 0) (.cons (.lit 0) (.cons (.lit 0) (.cons (.lit 0) (.cons (.lit 0) (.cons (.lit 0) (.cons (.lit 0) (.cons (.lit 0) (.cons (.lit 0) .nil))))))))))
(.br (.eq (.var 9) (.lit 0))
(.leaf (.cons (.lit 0) (.cons (.lit 0) (.cons (.lit 0) (.cons (.lit 0) (.cons (.lit 0) (.cons (.lit 0) (.cons (.lit 0) (.cons (.lit 0) (.cons (.lit 0) .nil))))))))))
(.br (.eq (.var 0) (.lit 1))
(.br (.eq (.var 9) (.lit 1))
(.br (.bvar 18)
(.call 2 (kSc) (.vs 1 6 (.vs 10 6 .nil)) 19
(.leaf (.cons (.lit 1) (.vs 19 6 (.cons (.lit 0) (.cons (.lit 0) .nil))))))
(.call 1 (kSc) (.vs 1 6 (.vs 10 6 .nil)) 19
(.leaf (.cons (.lit 1) (.vs 19 6 (.cons (.lit 0) (.cons (.lit 0) .nil)))))))
(.br (.eq (.var 0) (.var 9))
(.br (.lt (.var 16) (.var 7))
(.br (.bvar 18)
(.br (.lt (.var 8) (.var 17))
(.leaf (.cons (.var 0) (.cons (.lit 0) (.cons (.lit 0) (.cons (.lit 0) (.cons (.lit 0) (.cons (.lit 0) (.cons (.lit 0) (.cons (.lit (-1048576)) (.cons (.lit 1048576) .nil))))))))))
(.leaf (.cons (.var 0) (.cons (.lit 0) (.cons (.lit 0) (.cons (.lit 0) (.cons (.lit 0) (.cons (.lit 0) (.cons (.lit 0) (.cons (.lit (-1048576)) (.cons (.var 8) .nil)))))))))))
(.br (.lt (.var 8) (.var 17))
(.leaf (.cons (.var 0) (.cons (.lit 0) (.cons (.lit 0) (.cons (.lit 0) (.cons (.lit 0) (.cons (.lit 0) (.cons (.lit 0) (.vs 16 2 .nil)))))))))
(.leaf (.cons (.var 0) (.cons (.lit 0) (.cons (.lit 0) (.cons (.lit 0) (.cons (.lit 0) (.cons (.lit 0) (.cons (.lit 0) (.cons (.var 16) (.cons (.var 8) .nil))))))))))))
(.br (.lt (.var 8) (.var 17))
(.br (.bvar 18)
(.leaf (.cons (.var 0) (.cons (.lit 0) (.cons (.lit 0) (.cons (.lit 0) (.cons (.lit 0) (.cons (.lit 0) (.cons (.lit 0) (.cons (.var 7) (.cons (.lit 1048576) .nil))))))))))
(.leaf (.cons (.var 0) (.cons (.lit 0) (.cons (.lit 0) (.cons (.lit 0) (.cons (.lit 0) (.cons (.lit 0) (.cons (.lit 0) (.cons (.var 7) (.cons (.var 17) .nil)))))))))))
(.leaf (.cons (.var 0) (.cons (.lit 0) (.cons (.lit 0) (.cons (.lit 0) (.cons (.lit 0) (.cons (.lit 0) (.cons (.lit 0) (.vs 7 2 .nil)))))))))))
(.call 0 (kTy) .nil 19
(.leaf (.vs 19 9 .nil)))))
(.br (.eq (.var 0) (.var 9))
(.br (.lt (.var 16) (.var 7))
(.br (.bvar 18)
(.br (.lt (.var 8) (.var 17))
(.leaf (.cons (.var 0) (.cons (.lit 0) (.cons (.lit 0) (.cons (.lit 0) (.cons (.lit 0) (.cons (.lit 0) (.cons (.lit 0) (.cons (.lit (-1048576)) (.cons (.lit 1048576) .nil))))))))))
(.leaf (.cons (.var 0) (.cons (.lit 0) (.cons (.lit 0) (.cons (.lit 0) (.cons (.lit 0) (.cons (.lit 0) (.cons (.lit 0) (.cons (.lit (-1048576)) (.cons (.var 8) .nil)))))))))))
(.br (.lt (.var 8) (.var 17))
(.leaf (.cons (.var 0) (.cons (.lit 0) (.cons (.lit 0) (.cons (.lit 0) (.cons (.lit 0) (.cons (.lit 0) (.cons (.lit 0) (.vs 16 2 .nil)))))))))
(.leaf (.cons (.var 0) (.cons (.lit 0) (.cons (.lit 0) (.cons (.lit 0) (.cons (.lit 0) (.cons (.lit 0) (.cons (.lit 0) (.cons (.var 16) (.cons (.var 8) .nil))))))))))))
(.br (.lt (.var 8) (.var 17))
(.br (.bvar 18)
(.leaf (.cons (.var 0) (.cons (.lit 0) (.cons (.lit 0) (.cons (.lit 0) (.cons (.lit 0) (.cons (.lit 0) (.cons (.lit 0) (.cons (.var 7) (.cons (.lit 1048576) .nil))))))))))
(.leaf (.cons (.var 0) (.cons (.lit 0) (.cons (.lit 0) (.cons (.lit 0) (.cons (.lit 0) (.cons (.lit 0) (.cons (.lit 0) (.cons (.var 7) (.cons (.var 17) .nil)))))))))))
(.leaf (.cons (.var 0) (.cons (.lit 0) (.cons (.lit 0) (.cons (.lit 0) (.cons (.lit 0) (.cons (.lit 0) (.cons (.lit 0) (.vs 7 2 .nil)))))))))))
(.call 0 (kTy) .nil 19
(.leaf (.vs 19 9 .nil)))))))
def sP_yjn : Spec := ⟨fun k => match k with | 0 => sF_yscal | 1 => sF_wjoin | 2 => sF_wwid | _ => fun _ => [], fun k => match k with | _ => fun _ => True⟩
set_option maxRecDepth 100000 in
theorem sR_yjn : treeIs tys_SdM [sM_yscal 0, sM_wjoin 1, sM_wwid 2] [] [] [] 200 Try.f66 [.agg kTy, .agg kTy, .one .bool] [.agg kTy] false (v_Ty ( v_Ty ( .bool :: ([])))) sT_yjn := ⟨by kernel_rfl, by kernel_rfl, by kernel_rfl⟩
set_option maxRecDepth 100000 in
set_option maxHeartbeats 8000000 in
theorem sX_yjn (a : Ty) (ha : Ty.ok a) (b : Ty) (hb : Ty.ok b) (t : Bool) (ρ : Env) (g : varsD ρ 0 (v_Ty ( v_Ty ( .bool :: ([])))) = (d_Ty a ( d_Ty b ( .z (b2i t) :: ([]))))) : sT_yjn.asks sP_yjn (fun ρ e => e.D ρ = sF_yjn (d_Ty a ( d_Ty b ( .z (b2i t) :: ([]))))) ρ fun _ _ => False := by
  simp only [d_Ty, v_Ty, varsD, varD, List.cons.injEq, Dt.z.injEq, Dt.l.injEq, b2i_eq_iff, Nat.reduceAdd, and_true] at g
  simp only [sT_yjn, sP_yjn, d_Ty, kSc, kTy, sF_yscal, sF_wjoin, sF_wwid, sV_wjoin, sV_wwid, sF_yjn, sV_yjn, Tr.asks, upd_same, okDs, okD, eqs, E.I, E.B, E.L, E.R, E.D, E.vs, dI, dB, dL, varD, varsD, List.getElem?_cons_zero, List.getElem?_cons_succ, List.cons_append, List.nil_append, Nat.zero_add, Nat.add_zero, Nat.reduceAdd, and_true, true_and, b2i_one, -eq_self, etasX, g]
  refine ⟨fun c0 => ?_, fun c0 => ?_⟩
  · rw [show tjoin t a b = tnil from tj_a c0]; try rfl
  refine ⟨fun c1 => ?_, fun c1 => ?_⟩
  · rw [show tjoin t a b = tnil from tj_b c1]; try rfl
  refine ⟨fun c2 => ?_, fun c2 => ?_⟩
  refine ⟨fun c3 => ?_, fun c3 => ?_⟩
  refine ⟨fun c4 => ?_, fun c4 => ?_⟩
  intro e; (try simp only [e, etasX, -eq_self]); clear e
  · have e : tjoin t a b = _ := tj_1 c0 c1 (by rw [eqz c2, eqz c3]; rfl) c2
    rw [e, c4, eqz c2]; try rfl
  intro e; (try simp only [e, etasX, -eq_self]); clear e
  · have e : tjoin t a b = _ := tj_1 c0 c1 (by rw [eqz c2, eqz c3]; rfl) c2
    rw [e, c4, eqz c2]; try rfl
  refine ⟨fun c5 => ?_, fun c5 => ?_⟩
  refine ⟨fun c6 => ?_, fun c6 => ?_⟩
  refine ⟨fun c7 => ?_, fun c7 => ?_⟩
  refine ⟨fun c8 => ?_, fun c8 => ?_⟩
  · exact absurd ((eqz c5).symm.trans (eqz c2)) (nez c3)
  · exact absurd ((eqz c5).symm.trans (eqz c2)) (nez c3)
  refine ⟨fun c9 => ?_, fun c9 => ?_⟩
  · exact absurd ((eqz c5).symm.trans (eqz c2)) (nez c3)
  · exact absurd ((eqz c5).symm.trans (eqz c2)) (nez c3)
  refine ⟨fun c10 => ?_, fun c10 => ?_⟩
  refine ⟨fun c11 => ?_, fun c11 => ?_⟩
  · exact absurd ((eqz c5).symm.trans (eqz c2)) (nez c3)
  · exact absurd ((eqz c5).symm.trans (eqz c2)) (nez c3)
  · exact absurd ((eqz c5).symm.trans (eqz c2)) (nez c3)
  intro e; (try simp only [e, etasX, -eq_self]); clear e
  · rw [show tjoin t a b = tscal from tj_ne c0 c1 c5]; try rfl
  refine ⟨fun c12 => ?_, fun c12 => ?_⟩
  refine ⟨fun c13 => ?_, fun c13 => ?_⟩
  refine ⟨fun c14 => ?_, fun c14 => ?_⟩
  refine ⟨fun c15 => ?_, fun c15 => ?_⟩
  · have e : tjoin t a b = _ := tj_p c0 c1 c12 c2
    rw [e]
    rw [tlo_t c14 (lo_lt c13).1]
    rw [thi_t c14 (hi_lt c15).1]
    all_goals rfl
  · have e : tjoin t a b = _ := tj_p c0 c1 c12 c2
    rw [e]
    rw [tlo_t c14 (lo_lt c13).1]
    rw [thi_n (hi_ge c15).1, (hi_ge c15).2]
    all_goals rfl
  refine ⟨fun c16 => ?_, fun c16 => ?_⟩
  · have e : tjoin t a b = _ := tj_p c0 c1 c12 c2
    rw [e]
    rw [tlo_f c14, (lo_lt c13).2]
    rw [thi_f c14, (hi_lt c16).2]
    all_goals rfl
  · have e : tjoin t a b = _ := tj_p c0 c1 c12 c2
    rw [e]
    rw [tlo_f c14, (lo_lt c13).2]
    rw [thi_n (hi_ge c16).1, (hi_ge c16).2]
    all_goals rfl
  refine ⟨fun c17 => ?_, fun c17 => ?_⟩
  refine ⟨fun c18 => ?_, fun c18 => ?_⟩
  · have e : tjoin t a b = _ := tj_p c0 c1 c12 c2
    rw [e]
    rw [tlo_n (lo_ge c13).1, (lo_ge c13).2]
    rw [thi_t c18 (hi_lt c17).1]
    all_goals rfl
  · have e : tjoin t a b = _ := tj_p c0 c1 c12 c2
    rw [e]
    rw [tlo_n (lo_ge c13).1, (lo_ge c13).2]
    rw [thi_f c18, (hi_lt c17).2]
    all_goals rfl
  · have e : tjoin t a b = _ := tj_p c0 c1 c12 c2
    rw [e]
    rw [tlo_n (lo_ge c13).1, (lo_ge c13).2]
    rw [thi_n (hi_ge c17).1, (hi_ge c17).2]
    all_goals rfl
  intro e; (try simp only [e, etasX, -eq_self]); clear e
  · rw [show tjoin t a b = tscal from tj_ne c0 c1 c12]; try rfl
theorem sK_yjn {sp : Spec} {key : Nat} (hF : sp.F key = sF_yjn) (hP : sp.pre key = fun _ => True := by rfl) : SmOk Try.prog sp (sM_yjn key) :=
  fun_ok (s := sM_yjn key) hF hP (by kernel_rfl) tysok_SdM (smc (sK_yscal rfl) (smc (sK_wjoin rfl) (smc (sK_wwid rfl) sm0))) Try.func66 fn0 sR_yjn (.inl rfl) (for_Ty fun q0 gq0 => for_Ty fun q1 gq1 => fun x18 hp ρ g => sX_yjn q0 gq0 q1 gq1 x18 ρ g)
def sM_yboth (key : Nat) : Sm := ⟨38, key, [.agg kSta, .agg kSta, .one .bool], [.agg kSta, .one (.int .i64)], true⟩
def sV_yboth (a : Sta) (b : Sta) (t : Bool) : List Dt := d_Sta (sjoin t a b) ( .z (serr a b) :: ([]))
def sF_yboth : List Dt → List Dt := rd_Sta fun a => rd_Sta fun b => rdB fun t => fun _ => sV_yboth a b t
set_option maxRecDepth 100000 in
def sT_yboth : Tr :=
(.call 0 ([.bool]) (.vs 0 171 .nil) 343
(.br (.bvar 343)
(.call 0 ([.bool]) (.vs 171 171 .nil) 344
(.br (.bvar 344)
(.call 1 (kTy) (.vs 0 9 (.vs 171 9 (.consb (.bvar 342) .nil))) 345
(.call 1 (kTy) (.vs 9 9 (.vs 180 9 (.consb (.bvar 342) .nil))) 354
(.call 1 (kTy) (.vs 18 9 (.vs 189 9 (.consb (.bvar 342) .nil))) 363
(.call 1 (kTy) (.vs 27 9 (.vs 198 9 (.consb (.bvar 342) .nil))) 372
(.call 1 (kTy) (.vs 36 9 (.vs 207 9 (.consb (.bvar 342) .nil))) 381
(.call 1 (kTy) (.vs 45 9 (.vs 216 9 (.consb (.bvar 342) .nil))) 390
(.call 1 (kTy) (.vs 54 9 (.vs 225 9 (.consb (.bvar 342) .nil))) 399
(.call 1 (kTy) (.vs 63 9 (.vs 234 9 (.consb (.bvar 342) .nil))) 408
(.call 1 (kTy) (.vs 72 9 (.vs 243 9 (.consb (.bvar 342) .nil))) 417
(.call 1 (kTy) (.vs 81 9 (.vs 252 9 (.consb (.bvar 342) .nil))) 426
(.call 1 (kTy) (.vs 90 9 (.vs 261 9 (.consb (.bvar 342) .nil))) 435
(.call 1 (kTy) (.vs 99 9 (.vs 270 9 (.consb (.bvar 342) .nil))) 444
(.call 1 (kTy) (.vs 108 9 (.vs 279 9 (.consb (.bvar 342) .nil))) 453
(.call 1 (kTy) (.vs 117 9 (.vs 288 9 (.consb (.bvar 342) .nil))) 462
(.call 1 (kTy) (.vs 126 9 (.vs 297 9 (.consb (.bvar 342) .nil))) 471
(.call 1 (kTy) (.vs 135 9 (.vs 306 9 (.consb (.bvar 342) .nil))) 480
(.call 1 (kTy) (.vs 144 9 (.vs 315 9 (.consb (.bvar 342) .nil))) 489
(.call 1 (kTy) (.vs 153 9 (.vs 324 9 (.consb (.bvar 342) .nil))) 498
(.call 1 (kTy) (.vs 162 9 (.vs 333 9 (.consb (.bvar 342) .nil))) 507
(.leaf (.vs 345 171 (.cons (.lit 0) .nil))))))))))))))))))))))
(.leaf (.cons (.lit 0) (.cons (.lit 0) (.cons (.lit 0) (.cons (.lit 0) (.cons (.lit 0) (.cons (.lit 0) (.cons (.lit 0) (.cons (.lit 0) (.cons (.lit 0) (.cons (.lit 0) (.cons (.lit 0) (.cons (.lit 0) (.cons (.lit 0) (.cons (.lit 0) (.cons (.lit 0) (.cons (.lit 0) (.cons (.lit 0) (.cons (.lit 0) (.cons (.lit 0) (.cons (.lit 0) (.cons (.lit 0) (.cons (.lit 0) (.cons (.lit 0) (.cons (.lit 0) (.cons (.lit 0) (.cons (.lit 0) (.cons (.lit 0) (.cons (.lit 0) (.cons (.lit 0) (.cons (.lit 0) (.cons (.lit 0) (.cons (.lit 0) (.cons (.lit 0) (.cons (.lit 0) (.cons (.lit 0) (.cons (.lit 0) (.cons (.lit 0) (.cons (.lit 0) (.cons (.lit 0) (.cons (.lit 0) (.cons (.lit 0) (.cons (.lit 0) (.cons (.lit 0) (.cons (.lit 0) (.cons (.lit 0) (.cons (.lit 0) (.cons (.lit 0) (.cons (.lit 0) (.cons (.lit 0) (.cons (.lit 0) (.cons (.lit 0) (.cons (.lit 0) (.cons (.lit 0) (.cons (.lit 0) (.cons (.lit 0) (.cons (.lit 0) (.cons (.lit 0) (.cons (.lit 0) (.cons (.lit 0) (.cons (.lit 0) (.cons (.lit 0) (.cons (.lit 0) (.cons (.lit 0) (.cons (.lit 0) (.cons (.lit 0) (.cons (.lit 0) (.cons (.lit 0) (.cons (.lit 0) (.cons (.lit 0) (.cons (.lit 0) (.cons (.lit 0) (.cons (.lit 0) (.cons (.lit 0) (.cons (.lit 0) (.cons (.lit 0) (.cons (.lit 0) (.cons (.lit 0) (.cons (.lit 0) (.cons (.lit 0) (.cons (.lit 0) (.cons (.lit 0) (.cons (.lit 0) (.cons (.lit 0) (.cons (.lit 0) (.cons (.lit 0) (.cons (.lit 0) (.cons (.lit 0) (.cons (.lit 0) (.cons (.lit 0) (.cons (.lit 0) (.cons (.lit 0) (.cons (.lit 0) (.cons (.lit 0) (.cons (.lit 0) (.cons (.lit 0) (.cons (.lit 0) (.cons (.lit 0) (.cons (.lit 0) (.cons (.lit 0) (.cons (.lit 0) (.cons (.lit 0) (.cons (.lit 0) (.cons (.lit 0) (.cons (.lit 0) (.cons (.lit 0) (.cons (.lit 0) (.cons (.lit 0) (.cons (.lit 0) (.cons (.lit 0) (.cons (.lit 0) (.cons (.lit 0) (.cons (.lit 0) (.cons (.lit 0) (.cons (.lit 0) (.cons (.lit 0) (.cons (.lit 0) (.cons (.lit 0) (.cons (.lit 0) (.cons (.lit 0) (.cons (.lit 0) (.cons (.lit 0) (.cons (.lit 0) (.cons (.lit 0) (.cons (.lit 0) (.cons (.lit 0) (.cons (.lit 0) (.cons (.lit 0) (.cons (.lit 0) (.cons (.lit 0) (.cons (.lit 0) (.cons (.lit 0) (.cons (.lit 0) (.cons (.lit 0) (.cons (.lit 0) (.cons (.lit 0) (.cons (.lit 0) (.cons (.lit 0) (.cons (.lit 0) (.cons (.lit 0) (.cons (.lit 0) (.cons (.lit 0) (.cons (.lit 0) (.cons (.lit 0) (.cons (.lit 0) (.cons (.lit 0) (.cons (.lit 0) (.cons (.lit 0) (.cons (.lit 0) (.cons (.lit 0) (.cons (.lit 0) (.cons (.lit 0) (.cons (.lit 0) (.cons (.lit 0) (.cons (.lit 0) (.cons (.lit 0) (.cons (.lit 0) (.cons (.lit 0) (.cons (.lit 0) (.cons (.lit 0) (.cons (.lit 0) (.cons (.lit 0) (.cons (.lit 0) (.cons (.lit 0) (.cons (.lit 0) (.cons (.lit 0) (.cons (.lit 0) (.cons (.lit 0) (.cons (.lit 0) (.cons (.lit 0) (.cons (.lit 0) (.cons (.lit 0) (.cons (.lit 2) .nil)))))))))))))))))))))))))))))))))))))))))))))))))))))))))))))))))))))))))))))))))))))))))))))))))))))))))))))))))))))))))))))))))))))))))))))))))))))))))))))))))))))))))))))))
(.leaf (.cons (.lit 0) (.cons (.lit 0) (.cons (.lit 0) (.cons (.lit 0) (.cons (.lit 0) (.cons (.lit 0) (.cons (.lit 0) (.cons (.lit 0) (.cons (.lit 0) (.cons (.lit 0) (.cons (.lit 0) (.cons (.lit 0) (.cons (.lit 0) (.cons (.lit 0) (.cons (.lit 0) (.cons (.lit 0) (.cons (.lit 0) (.cons (.lit 0) (.cons (.lit 0) (.cons (.lit 0) (.cons (.lit 0) (.cons (.lit 0) (.cons (.lit 0) (.cons (.lit 0) (.cons (.lit 0) (.cons (.lit 0) (.cons (.lit 0) (.cons (.lit 0) (.cons (.lit 0) (.cons (.lit 0) (.cons (.lit 0) (.cons (.lit 0) (.cons (.lit 0) (.cons (.lit 0) (.cons (.lit 0) (.cons (.lit 0) (.cons (.lit 0) (.cons (.lit 0) (.cons (.lit 0) (.cons (.lit 0) (.cons (.lit 0) (.cons (.lit 0) (.cons (.lit 0) (.cons (.lit 0) (.cons (.lit 0) (.cons (.lit 0) (.cons (.lit 0) (.cons (.lit 0) (.cons (.lit 0) (.cons (.lit 0) (.cons (.lit 0) (.cons (.lit 0) (.cons (.lit 0) (.cons (.lit 0) (.cons (.lit 0) (.cons (.lit 0) (.cons (.lit 0) (.cons (.lit 0) (.cons (.lit 0) (.cons (.lit 0) (.cons (.lit 0) (.cons (.lit 0) (.cons (.lit 0) (.cons (.lit 0) (.cons (.lit 0) (.cons (.lit 0) (.cons (.lit 0) (.cons (.lit 0) (.cons (.lit 0) (.cons (.lit 0) (.cons (.lit 0) (.cons (.lit 0) (.cons (.lit 0) (.cons (.lit 0) (.cons (.lit 0) (.cons (.lit 0) (.cons (.lit 0) (.cons (.lit 0) (.cons (.lit 0) (.cons (.lit 0) (.cons (.lit 0) (.cons (.lit 0) (.cons (.lit 0) (.cons (.lit 0) (.cons (.lit 0) (.cons (.lit 0) (.cons (.lit 0) (.cons (.lit 0) (.cons (.lit 0) (.cons (.lit 0) (.cons (.lit 0) (.cons (.lit 0) (.cons (.lit 0) (.cons (.lit 0) (.cons (.lit 0) (.cons (.lit 0) (.cons (.lit 0) (.cons (.lit 0) (.cons (.lit 0) (.cons (.lit 0) (.cons (.lit 0) (.cons (.lit 0) (.cons (.lit 0) (.cons (.lit 0) (.cons (.lit 0) (.cons (.lit 0) (.cons (.lit 0) (.cons (.lit 0) (.cons (.lit 0) (.cons (.lit 0) (.cons (.lit 0) (.cons (.lit 0) (.cons (.lit 0) (.cons (.lit 0) (.cons (.lit 0) (.cons (.lit 0) (.cons (.lit 0) (.cons (.lit 0) (.cons (.lit 0) (.cons (.lit 0) (.cons (.lit 0) (.cons (.lit 0) (.cons (.lit 0) (.cons (.lit 0) (.cons (.lit 0) (.cons (.lit 0) (.cons (.lit 0) (.cons (.lit 0) (.cons (.lit 0) (.cons (.lit 0) (.cons (.lit 0) (.cons (.lit 0) (.cons (.lit 0) (.cons (.lit 0) (.cons (.lit 0) (.cons (.lit 0) (.cons (.lit 0) (.cons (.lit 0) (.cons (.lit 0) (.cons (.lit 0) (.cons (.lit 0) (.cons (.lit 0) (.cons (.lit 0) (.cons (.lit 0) (.cons (.lit 0) (.cons (.lit 0) (.cons (.lit 0) (.cons (.lit 0) (.cons (.lit 0) (.cons (.lit 0) (.cons (.lit 0) (.cons (.lit 0) (.cons (.lit 0) (.cons (.lit 0) (.cons (.lit 0) (.cons (.lit 0) (.cons (.lit 0) (.cons (.lit 0) (.cons (.lit 0) (.cons (.lit 0) (.cons (.lit 0) (.cons (.lit 0) (.cons (.lit 0) (.cons (.lit 0) (.cons (.lit 0) (.cons (.lit 0) (.cons (.lit 0) (.cons (.lit 0) (.cons (.lit 0) (.cons (.lit 0) (.cons (.lit 0) (.cons (.lit 2) .nil)))))))))))))))))))))))))))))))))))))))))))))))))))))))))))))))))))))))))))))))))))))))))))))))))))))))))))))))))))))))))))))))))))))))))))))))))))))))))))))))))))))))))))))))
def sP_yboth : Spec := ⟨fun k => match k with | 0 => sF_ymay | 1 => sF_yjn | _ => fun _ => [], fun k => match k with | _ => fun _ => True⟩
set_option maxRecDepth 100000 in
theorem sR_yboth : treeIs tys_SdM [sM_ymay 0, sM_yjn 1] [] [] [] 400 Try.f38 [.agg kSta, .agg kSta, .one .bool] [.agg kSta, .one (.int .i64)] true (v_Sta ( v_Sta ( .bool :: ([])))) sT_yboth := ⟨by kernel_rfl, by kernel_rfl, by kernel_rfl⟩
set_option maxRecDepth 100000 in
set_option maxHeartbeats 8000000 in
theorem sX_yboth (a : Sta) (ha : Sta.ok a) (b : Sta) (hb : Sta.ok b) (t : Bool) (ρ : Env) (g : varsD ρ 0 (v_Sta ( v_Sta ( .bool :: ([])))) = (d_Sta a ( d_Sta b ( .z (b2i t) :: ([]))))) : sT_yboth.asks sP_yboth (fun ρ e => e.D ρ = sF_yboth (d_Sta a ( d_Sta b ( .z (b2i t) :: ([]))))) ρ fun _ _ => False := by
  simp only [sF_yboth, rd_Sta_d, rd_Ty_d, rdZ, rdB]
  simp only [d_Sta, d_Ty, v_Sta, v_Ty, varsD, varD, List.cons.injEq, Dt.z.injEq, Dt.l.injEq, b2i_eq_iff, Nat.reduceAdd, and_true] at g
  simp (maxSteps := 10000000) only [sT_yboth, sP_yboth, d_Sta, d_Ty, kTy, rd_Sta, rd_Ty, rdB, sF_ymay, sF_yjn, sV_ymay, sV_yjn, sF_yboth, sV_yboth, Tr.asks, upd_same, okDs, okD, eqs, E.I, E.B, E.L, E.R, E.D, E.vs, dI, dB, dL, varD, varsD, List.getElem?_cons_zero, List.getElem?_cons_succ, List.cons_append, List.nil_append, Nat.zero_add, Nat.add_zero, Nat.reduceAdd, and_true, true_and, b2i_one, -eq_self, etasX, g]
  intro e; (try simp only [e, etasX, -eq_self]); clear e
  refine ⟨fun c0 => ?_, fun c0 => ?_⟩
  intro e; (try simp only [e, etasX, -eq_self]); clear e
  refine ⟨fun c1 => ?_, fun c1 => ?_⟩
  intro e; (try simp only [e, etasX, -eq_self]); clear e
  intro e; (try simp only [e, etasX, -eq_self]); clear e
  intro e; (try simp only [e, etasX, -eq_self]); clear e
  intro e; (try simp only [e, etasX, -eq_self]); clear e
  intro e; (try simp only [e, etasX, -eq_self]); clear e
  intro e; (try simp only [e, etasX, -eq_self]); clear e
  intro e; (try simp only [e, etasX, -eq_self]); clear e
  intro e; (try simp only [e, etasX, -eq_self]); clear e
  intro e; (try simp only [e, etasX, -eq_self]); clear e
  intro e; (try simp only [e, etasX, -eq_self]); clear e
  intro e; (try simp only [e, etasX, -eq_self]); clear e
  intro e; (try simp only [e, etasX, -eq_self]); clear e
  intro e; (try simp only [e, etasX, -eq_self]); clear e
  intro e; (try simp only [e, etasX, -eq_self]); clear e
  intro e; (try simp only [e, etasX, -eq_self]); clear e
  intro e; (try simp only [e, etasX, -eq_self]); clear e
  intro e; (try simp only [e, etasX, -eq_self]); clear e
  intro e; (try simp only [e, etasX, -eq_self]); clear e
  intro e; (try simp only [e, etasX, -eq_self]); clear e
  · rw [(sj_yes c0 c1).1, (sj_yes (w := true) c0 c1).2]; rfl
  · rw [(sj_no (.inr c1)).1, (sj_no (w := true) (.inr c1)).2]; rfl
  · rw [(sj_no (.inl c0)).1, (sj_no (w := true) (.inl c0)).2]; rfl
theorem sK_yboth {sp : Spec} {key : Nat} (hF : sp.F key = sF_yboth) (hP : sp.pre key = fun _ => True := by rfl) : SmOk Try.prog sp (sM_yboth key) :=
  fun_ok (s := sM_yboth key) hF hP (by kernel_rfl) tysok_SdM (smc (sK_ymay rfl) (smc (sK_yjn rfl) sm0)) Try.func38 fn0 sR_yboth (.inl rfl) (for_Sta fun q0 gq0 => for_Sta fun q1 gq1 => fun x342 hp ρ g => sX_yboth q0 gq0 q1 gq1 x342 ρ g)
def sM_yjoin (key : Nat) : Sm := ⟨9, key, [.agg kSta, .agg kSta], [.agg kSta, .one (.int .i64)], true⟩
def sV_yjoin (a : Sta) (b : Sta) : List Dt := d_Sta (sjoin false a b) ( .z (serr a b) :: ([]))
def sF_yjoin : List Dt → List Dt := rd_Sta fun a => rd_Sta fun b => fun _ => sV_yjoin a b
def sT_yjoin : Tr :=
(.call 0 (kSta ++ [.int .i64]) (.vs 0 342 (.consb (.tt false) .nil)) 342
(.leaf (.vs 342 172 .nil)))
def sP_yjoin : Spec := ⟨fun k => match k with | 0 => sF_yboth | _ => fun _ => [], fun k => match k with | _ => fun _ => True⟩
set_option maxRecDepth 100000 in
theorem sR_yjoin : treeIs tys_SdM [sM_yboth 0] [] [] [] 200 Try.f9 [.agg kSta, .agg kSta] [.agg kSta, .one (.int .i64)] true (v_Sta ( v_Sta ([]))) sT_yjoin := ⟨by kernel_rfl, by kernel_rfl, by kernel_rfl⟩
set_option maxRecDepth 100000 in
set_option maxHeartbeats 8000000 in
theorem sX_yjoin (a : Sta) (ha : Sta.ok a) (b : Sta) (hb : Sta.ok b) (ρ : Env) (g : varsD ρ 0 (v_Sta ( v_Sta ([]))) = (d_Sta a ( d_Sta b ([])))) : sT_yjoin.asks sP_yjoin (fun ρ e => e.D ρ = sF_yjoin (d_Sta a ( d_Sta b ([])))) ρ fun _ _ => False := by
  simp only [sF_yjoin, rd_Sta_d, rd_Ty_d, rdZ, rdB]
  simp only [d_Sta, d_Ty, v_Sta, v_Ty, varsD, varD, List.cons.injEq, Dt.z.injEq, Dt.l.injEq, b2i_eq_iff, Nat.reduceAdd, and_true] at g
  simp (maxSteps := 10000000) only [sT_yjoin, sP_yjoin, d_Sta, d_Ty, kSta, rd_Sta, rd_Ty, rdB, sF_yboth, sV_yboth, sF_yjoin, sV_yjoin, Tr.asks, upd_same, okDs, okD, eqs, E.I, E.B, E.L, E.R, E.D, E.vs, dI, dB, dL, varD, varsD, List.getElem?_cons_zero, List.getElem?_cons_succ, List.cons_append, List.nil_append, Nat.zero_add, Nat.add_zero, Nat.reduceAdd, and_true, true_and, b2i_one, -eq_self, etasX, g]
  intro e; (try simp only [e, etasX, -eq_self]); clear e
  · rfl
theorem sK_yjoin {sp : Spec} {key : Nat} (hF : sp.F key = sF_yjoin) (hP : sp.pre key = fun _ => True := by rfl) : SmOk Try.prog sp (sM_yjoin key) :=
  fun_ok (s := sM_yjoin key) hF hP (by kernel_rfl) tysok_SdM (smc (sK_yboth rfl) sm0) Try.func9 fn0 sR_yjoin (.inl rfl) (for_Sta fun q0 gq0 => for_Sta fun q1 gq1 => fun  hp ρ g => sX_yjoin q0 gq0 q1 gq1 ρ g)
def sM_ywid (key : Nat) : Sm := ⟨11, key, [.agg kSta, .agg kSta], [.agg kSta, .one (.int .i64)], true⟩
def sV_ywid (a : Sta) (b : Sta) : List Dt := d_Sta (sjoin true a b) ( .z (serr a b) :: ([]))
def sF_ywid : List Dt → List Dt := rd_Sta fun a => rd_Sta fun b => fun _ => sV_ywid a b
def sT_ywid : Tr :=
(.call 0 (kSta ++ [.int .i64]) (.vs 0 342 (.consb (.tt true) .nil)) 342
(.leaf (.vs 342 172 .nil)))
def sP_ywid : Spec := ⟨fun k => match k with | 0 => sF_yboth | _ => fun _ => [], fun k => match k with | _ => fun _ => True⟩
set_option maxRecDepth 100000 in
theorem sR_ywid : treeIs tys_SdM [sM_yboth 0] [] [] [] 200 Try.f11 [.agg kSta, .agg kSta] [.agg kSta, .one (.int .i64)] true (v_Sta ( v_Sta ([]))) sT_ywid := ⟨by kernel_rfl, by kernel_rfl, by kernel_rfl⟩
set_option maxRecDepth 100000 in
set_option maxHeartbeats 8000000 in
theorem sX_ywid (a : Sta) (ha : Sta.ok a) (b : Sta) (hb : Sta.ok b) (ρ : Env) (g : varsD ρ 0 (v_Sta ( v_Sta ([]))) = (d_Sta a ( d_Sta b ([])))) : sT_ywid.asks sP_ywid (fun ρ e => e.D ρ = sF_ywid (d_Sta a ( d_Sta b ([])))) ρ fun _ _ => False := by
  simp only [sF_ywid, rd_Sta_d, rd_Ty_d, rdZ, rdB]
  simp only [d_Sta, d_Ty, v_Sta, v_Ty, varsD, varD, List.cons.injEq, Dt.z.injEq, Dt.l.injEq, b2i_eq_iff, Nat.reduceAdd, and_true] at g
  simp (maxSteps := 10000000) only [sT_ywid, sP_ywid, d_Sta, d_Ty, kSta, rd_Sta, rd_Ty, rdB, sF_yboth, sV_yboth, sF_ywid, sV_ywid, Tr.asks, upd_same, okDs, okD, eqs, E.I, E.B, E.L, E.R, E.D, E.vs, dI, dB, dL, varD, varsD, List.getElem?_cons_zero, List.getElem?_cons_succ, List.cons_append, List.nil_append, Nat.zero_add, Nat.add_zero, Nat.reduceAdd, and_true, true_and, b2i_one, -eq_self, etasX, g]
  intro e; (try simp only [e, etasX, -eq_self]); clear e
  · rfl
theorem sK_ywid {sp : Spec} {key : Nat} (hF : sp.F key = sF_ywid) (hP : sp.pre key = fun _ => True := by rfl) : SmOk Try.prog sp (sM_ywid key) :=
  fun_ok (s := sM_ywid key) hF hP (by kernel_rfl) tysok_SdM (smc (sK_yboth rfl) sm0) Try.func11 fn0 sR_ywid (.inl rfl) (for_Sta fun q0 gq0 => for_Sta fun q1 gq1 => fun  hp ρ g => sX_ywid q0 gq0 q1 gq1 ρ g)
end Go.Proofs.Ytcfnglbcgkappaa

