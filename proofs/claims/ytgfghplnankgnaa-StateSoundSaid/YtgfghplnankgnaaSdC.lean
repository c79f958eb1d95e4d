/- Contracts of Join and Widen of package state, by the symbolic run. -/
import Derived.Test.YtgfghplnankgnaaSdB
import Derived.Test.YtgfghplnankgnaaProg
import Derived.Laws.Externs
set_option linter.unusedVariables false
set_option linter.unusedSimpArgs false
namespace Go.Proofs.Ytgfghplnankgnaa
open Go.RowKit Go.ChangeShapes Go.WideShapes

def tys_SdC : List (Nat × TI) := [(2, ⟨false, 1, [.int .i64 (.lit 0)], [], none, some .i64, false, false, none, 8, false, none, false⟩),
 (3, ⟨false, 1, [.int .i64 (.lit 0)], [], none, some .i64, false, false, none, 8, false, none, false⟩),
 (22, ⟨false, 1, [.int .i8 (.lit 0)], [], none, some .i8, false, false, none, 1, false, none, false⟩),
 (23, ⟨false, 1, [.int .u64 (.lit 0)], [], none, some .u64, false, false, none, 8, false, none, false⟩),
 (25, ⟨true, 4, [.int .u64 (.lit 0), .int .u64 (.lit 0), .int .i64 (.lit 0), .int .i64 (.lit 0)], [(0, 23), (1, 23), (2, 2), (3, 2)], none, none, false, false, none, 32, false, none, false⟩),
 (27, ⟨true, 2, [.int .u64 (.lit 0), .int .u64 (.lit 0)], [(0, 23), (1, 23)], none, none, false, false, none, 16, false, none, false⟩),
 (29, ⟨true, 6, [.int .u64 (.lit 0), .int .u64 (.lit 0), .int .i64 (.lit 0), .int .i64 (.lit 0), .int .u64 (.lit 0), .int .u64 (.lit 0)], [(0, 25), (4, 27)], none, none, false, false, none, 48, false, none, false⟩),
 (31, ⟨true, 9, [.int .i8 (.lit 0), .int .u64 (.lit 0), .int .u64 (.lit 0), .int .i64 (.lit 0), .int .i64 (.lit 0), .int .u64 (.lit 0), .int .u64 (.lit 0), .int .i64 (.lit 0), .int .i64 (.lit 0)], [(0, 22), (1, 29), (7, 3), (8, 3)], none, none, false, false, none, 72, false, none, false⟩),
 (32, ⟨true, 99, [.int .i8 (.lit 0), .int .u64 (.lit 0), .int .u64 (.lit 0), .int .i64 (.lit 0), .int .i64 (.lit 0), .int .u64 (.lit 0), .int .u64 (.lit 0), .int .i64 (.lit 0), .int .i64 (.lit 0), .int .i8 (.lit 0), .int .u64 (.lit 0), .int .u64 (.lit 0), .int .i64 (.lit 0), .int .i64 (.lit 0), .int .u64 (.lit 0), .int .u64 (.lit 0), .int .i64 (.lit 0), .int .i64 (.lit 0), .int .i8 (.lit 0), .int .u64 (.lit 0), .int .u64 (.lit 0), .int .i64 (.lit 0), .int .i64 (.lit 0), .int .u64 (.lit 0), .int .u64 (.lit 0), .int .i64 (.lit 0), .int .i64 (.lit 0), .int .i8 (.lit 0), .int .u64 (.lit 0), .int .u64 (.lit 0), .int .i64 (.lit 0), .int .i64 (.lit 0), .int .u64 (.lit 0), .int .u64 (.lit 0), .int .i64 (.lit 0), .int .i64 (.lit 0), .int .i8 (.lit 0), .int .u64 (.lit 0), .int .u64 (.lit 0), .int .i64 (.lit 0), .int .i64 (.lit 0), .int .u64 (.lit 0), .int .u64 (.lit 0), .int .i64 (.lit 0), .int .i64 (.lit 0), .int .i8 (.lit 0), .int .u64 (.lit 0), .int .u64 (.lit 0), .int .i64 (.lit 0), .int .i64 (.lit 0), .int .u64 (.lit 0), .int .u64 (.lit 0), .int .i64 (.lit 0), .int .i64 (.lit 0), .int .i8 (.lit 0), .int .u64 (.lit 0), .int .u64 (.lit 0), .int .i64 (.lit 0), .int .i64 (.lit 0), .int .u64 (.lit 0), .int .u64 (.lit 0), .int .i64 (.lit 0), .int .i64 (.lit 0), .int .i8 (.lit 0), .int .u64 (.lit 0), .int .u64 (.lit 0), .int .i64 (.lit 0), .int .i64 (.lit 0), .int .u64 (.lit 0), .int .u64 (.lit 0), .int .i64 (.lit 0), .int .i64 (.lit 0), .int .i8 (.lit 0), .int .u64 (.lit 0), .int .u64 (.lit 0), .int .i64 (.lit 0), .int .i64 (.lit 0), .int .u64 (.lit 0), .int .u64 (.lit 0), .int .i64 (.lit 0), .int .i64 (.lit 0), .int .i8 (.lit 0), .int .u64 (.lit 0), .int .u64 (.lit 0), .int .i64 (.lit 0), .int .i64 (.lit 0), .int .u64 (.lit 0), .int .u64 (.lit 0), .int .i64 (.lit 0), .int .i64 (.lit 0), .int .i8 (.lit 0), .int .u64 (.lit 0), .int .u64 (.lit 0), .int .i64 (.lit 0), .int .i64 (.lit 0), .int .u64 (.lit 0), .int .u64 (.lit 0), .int .i64 (.lit 0), .int .i64 (.lit 0)], [], some (11, 31), none, false, false, none, 792, false, none, false⟩),
 (33, ⟨true, 72, [.int .i8 (.lit 0), .int .u64 (.lit 0), .int .u64 (.lit 0), .int .i64 (.lit 0), .int .i64 (.lit 0), .int .u64 (.lit 0), .int .u64 (.lit 0), .int .i64 (.lit 0), .int .i64 (.lit 0), .int .i8 (.lit 0), .int .u64 (.lit 0), .int .u64 (.lit 0), .int .i64 (.lit 0), .int .i64 (.lit 0), .int .u64 (.lit 0), .int .u64 (.lit 0), .int .i64 (.lit 0), .int .i64 (.lit 0), .int .i8 (.lit 0), .int .u64 (.lit 0), .int .u64 (.lit 0), .int .i64 (.lit 0), .int .i64 (.lit 0), .int .u64 (.lit 0), .int .u64 (.lit 0), .int .i64 (.lit 0), .int .i64 (.lit 0), .int .i8 (.lit 0), .int .u64 (.lit 0), .int .u64 (.lit 0), .int .i64 (.lit 0), .int .i64 (.lit 0), .int .u64 (.lit 0), .int .u64 (.lit 0), .int .i64 (.lit 0), .int .i64 (.lit 0), .int .i8 (.lit 0), .int .u64 (.lit 0), .int .u64 (.lit 0), .int .i64 (.lit 0), .int .i64 (.lit 0), .int .u64 (.lit 0), .int .u64 (.lit 0), .int .i64 (.lit 0), .int .i64 (.lit 0), .int .i8 (.lit 0), .int .u64 (.lit 0), .int .u64 (.lit 0), .int .i64 (.lit 0), .int .i64 (.lit 0), .int .u64 (.lit 0), .int .u64 (.lit 0), .int .i64 (.lit 0), .int .i64 (.lit 0), .int .i8 (.lit 0), .int .u64 (.lit 0), .int .u64 (.lit 0), .int .i64 (.lit 0), .int .i64 (.lit 0), .int .u64 (.lit 0), .int .u64 (.lit 0), .int .i64 (.lit 0), .int .i64 (.lit 0), .int .i8 (.lit 0), .int .u64 (.lit 0), .int .u64 (.lit 0), .int .i64 (.lit 0), .int .i64 (.lit 0), .int .u64 (.lit 0), .int .u64 (.lit 0), .int .i64 (.lit 0), .int .i64 (.lit 0)], [], some (8, 31), none, false, false, none, 576, false, none, false⟩),
 (35, ⟨true, 171, [.int .i8 (.lit 0), .int .u64 (.lit 0), .int .u64 (.lit 0), .int .i64 (.lit 0), .int .i64 (.lit 0), .int .u64 (.lit 0), .int .u64 (.lit 0), .int .i64 (.lit 0), .int .i64 (.lit 0), .int .i8 (.lit 0), .int .u64 (.lit 0), .int .u64 (.lit 0), .int .i64 (.lit 0), .int .i64 (.lit 0), .int .u64 (.lit 0), .int .u64 (.lit 0), .int .i64 (.lit 0), .int .i64 (.lit 0), .int .i8 (.lit 0), .int .u64 (.lit 0), .int .u64 (.lit 0), .int .i64 (.lit 0), .int .i64 (.lit 0), .int .u64 (.lit 0), .int .u64 (.lit 0), .int .i64 (.lit 0), .int .i64 (.lit 0), .int .i8 (.lit 0), .int .u64 (.lit 0), .int .u64 (.lit 0), .int .i64 (.lit 0), .int .i64 (.lit 0), .int .u64 (.lit 0), .int .u64 (.lit 0), .int .i64 (.lit 0), .int .i64 (.lit 0), .int .i8 (.lit 0), .int .u64 (.lit 0), .int .u64 (.lit 0), .int .i64 (.lit 0), .int .i64 (.lit 0), .int .u64 (.lit 0), .int .u64 (.lit 0), .int .i64 (.lit 0), .int .i64 (.lit 0), .int .i8 (.lit 0), .int .u64 (.lit 0), .int .u64 (.lit 0), .int .i64 (.lit 0), .int .i64 (.lit 0), .int .u64 (.lit 0), .int .u64 (.lit 0), .int .i64 (.lit 0), .int .i64 (.lit 0), .int .i8 (.lit 0), .int .u64 (.lit 0), .int .u64 (.lit 0), .int .i64 (.lit 0), .int .i64 (.lit 0), .int .u64 (.lit 0), .int .u64 (.lit 0), .int .i64 (.lit 0), .int .i64 (.lit 0), .int .i8 (.lit 0), .int .u64 (.lit 0), .int .u64 (.lit 0), .int .i64 (.lit 0), .int .i64 (.lit 0), .int .u64 (.lit 0), .int .u64 (.lit 0), .int .i64 (.lit 0), .int .i64 (.lit 0), .int .i8 (.lit 0), .int .u64 (.lit 0), .int .u64 (.lit 0), .int .i64 (.lit 0), .int .i64 (.lit 0), .int .u64 (.lit 0), .int .u64 (.lit 0), .int .i64 (.lit 0), .int .i64 (.lit 0), .int .i8 (.lit 0), .int .u64 (.lit 0), .int .u64 (.lit 0), .int .i64 (.lit 0), .int .i64 (.lit 0), .int .u64 (.lit 0), .int .u64 (.lit 0), .int .i64 (.lit 0), .int .i64 (.lit 0), .int .i8 (.lit 0), .int .u64 (.lit 0), .int .u64 (.lit 0), .int .i64 (.lit 0), .int .i64 (.lit 0), .int .u64 (.lit 0), .int .u64 (.lit 0), .int .i64 (.lit 0), .int .i64 (.lit 0), .int .i8 (.lit 0), .int .u64 (.lit 0), .int .u64 (.lit 0), .int .i64 (.lit 0), .int .i64 (.lit 0), .int .u64 (.lit 0), .int .u64 (.lit 0), .int .i64 (.lit 0), .int .i64 (.lit 0), .int .i8 (.lit 0), .int .u64 (.lit 0), .int .u64 (.lit 0), .int .i64 (.lit 0), .int .i64 (.lit 0), .int .u64 (.lit 0), .int .u64 (.lit 0), .int .i64 (.lit 0), .int .i64 (.lit 0), .int .i8 (.lit 0), .int .u64 (.lit 0), .int .u64 (.lit 0), .int .i64 (.lit 0), .int .i64 (.lit 0), .int .u64 (.lit 0), .int .u64 (.lit 0), .int .i64 (.lit 0), .int .i64 (.lit 0), .int .i8 (.lit 0), .int .u64 (.lit 0), .int .u64 (.lit 0), .int .i64 (.lit 0), .int .i64 (.lit 0), .int .u64 (.lit 0), .int .u64 (.lit 0), .int .i64 (.lit 0), .int .i64 (.lit 0), .int .i8 (.lit 0), .int .u64 (.lit 0), .int .u64 (.lit 0), .int .i64 (.lit 0), .int .i64 (.lit 0), .int .u64 (.lit 0), .int .u64 (.lit 0), .int .i64 (.lit 0), .int .i64 (.lit 0), .int .i8 (.lit 0), .int .u64 (.lit 0), .int .u64 (.lit 0), .int .i64 (.lit 0), .int .i64 (.lit 0), .int .u64 (.lit 0), .int .u64 (.lit 0), .int .i64 (.lit 0), .int .i64 (.lit 0), .int .i8 (.lit 0), .int .u64 (.lit 0), .int .u64 (.lit 0), .int .i64 (.lit 0), .int .i64 (.lit 0), .int .u64 (.lit 0), .int .u64 (.lit 0), .int .i64 (.lit 0), .int .i64 (.lit 0), .int .i8 (.lit 0), .int .u64 (.lit 0), .int .u64 (.lit 0), .int .i64 (.lit 0), .int .i64 (.lit 0), .int .u64 (.lit 0), .int .u64 (.lit 0), .int .i64 (.lit 0), .int .i64 (.lit 0)], [(0, 32), (99, 33)], none, none, false, false, none, 1368, false, none, false⟩)]
set_option maxRecDepth 100000 in
theorem tysck_SdC : (tys_SdC.all fun p => ckTI Try.prog p.1 p.2) = true := by kernel_rfl
theorem tyseq_SdC : (tys_SdC.all fun p => !p.2.eqok) = true := by kernel_rfl
theorem tyskn_SdC : (tys_SdC.all fun p => !p.2.keyok) = true := by kernel_rfl
theorem tysok_SdC : ∀ t i, (t, i) ∈ tys_SdC → TIok Try.prog t i := by
  intro t i h
  refine TIok_of (all_at (f := ckTI Try.prog) tysck_SdC h) (fun he => ?_) (fun he => ?_) (fun he => ?_)
  · have h1 := List.all_eq_true.1 tyseq_SdC (t, i) h
    simp [he] at h1
  · have h1 := List.all_eq_true.1 tyseq_SdC (t, i) h
    simp [he] at h1
  · have h1 := List.all_eq_true.1 tyskn_SdC (t, i) h
    simp [he] at h1
def sM_tjjoin (key : Nat) : Sm := ⟨19, key, [.agg kTy, .agg kTy, .one (.fn 20), .one .bool], [.agg kTy], false⟩
def sV_tjjoin (a : Ty) (b : Ty) (t : Bool) : List Dt := d_Ty (tjoin2 false t a b) ([])
def sF_tjjoin : List Dt → List Dt
  | [.z x0, .z x1, .z x2, .z x3, .z x4, .z x5, .z x6, .z x7, .z x8, .z x9, .z x10, .z x11, .z x12, .z x13, .z x14, .z x15, .z x16, .z x17, .z x18] => sV_tjjoin ⟨x0, x1, x2, x3, x4, x5, x6, x7, x8⟩ ⟨x9, x10, x11, x12, x13, x14, x15, x16, x17⟩ (x18 == 1)
  | _ => []
def sT_tjjoin : Tr :=
(.br (.eq (.var 0) (.lit 0))
(.leaf (.cons (.lit 0) (.cons (.lit 0) (.cons (.lit 0) (.cons (.lit 0) (.cons (.lit 0) (.cons (.lit 0) (.cons (.lit 0) (.cons (.lit 0) (.cons (.lit 0) .nil))))))))))
(.br (.eq (.var 9) (.lit 0))
(.leaf (.cons (.lit 0) (.cons (.lit 0) (.cons (.lit 0) (.cons (.lit 0) (.cons (.lit 0) (.cons (.lit 0) (.cons (.lit 0) (.cons (.lit 0) (.cons (.lit 0) .nil))))))))))
(.br (.eq (.var 0) (.var 9))
(.br (.eq (.var 0) (.lit 1))
(.call 1 (kSc) (.vs 1 6 (.vs 10 6 .nil)) 19
(.leaf (.cons (.var 0) (.vs 19 6 (.cons (.lit 0) (.cons (.lit 0) .nil))))))
(.br (.bvar 18)
(.br (.lt (.mn (.var 7) (.var 16)) (.var 7))
(.br (.lt (.var 8) (.mx (.var 8) (.var 17)))
(.leaf (.cons (.var 0) (.cons (.lit 0) (.cons (.lit 0) (.cons (.lit 0) (.cons (.lit 0) (.cons (.lit 0) (.cons (.lit 0) (.cons (.lit (-1048576)) (.cons (.lit 1048576) .nil))))))))))
(.leaf (.cons (.var 0) (.cons (.lit 0) (.cons (.lit 0) (.cons (.lit 0) (.cons (.lit 0) (.cons (.lit 0) (.cons (.lit 0) (.cons (.lit (-1048576)) (.cons (.mx (.var 8) (.var 17)) .nil)))))))))))
(.br (.lt (.var 8) (.mx (.var 8) (.var 17)))
(.leaf (.cons (.var 0) (.cons (.lit 0) (.cons (.lit 0) (.cons (.lit 0) (.cons (.lit 0) (.cons (.lit 0) (.cons (.lit 0) (.cons (.mn (.var 7) (.var 16)) (.cons (.lit 1048576) .nil))))))))))
(.leaf (.cons (.var 0) (.cons (.lit 0) (.cons (.lit 0) (.cons (.lit 0) (.cons (.lit 0) (.cons (.lit 0) (.cons (.lit 0) (.cons (.mn (.var 7) (.var 16)) (.cons (.mx (.var 8) (.var 17)) .nil))))))))))))
(.leaf (.cons (.var 0) (.cons (.lit 0) (.cons (.lit 0) (.cons (.lit 0) (.cons (.lit 0) (.cons (.lit 0) (.cons (.lit 0) (.cons (.mn (.var 7) (.var 16)) (.cons (.mx (.var 8) (.var 17)) .nil))))))))))))
(.call 0 (kTy) .nil 19
(.leaf (.vs 19 9 .nil))))))
def sP_tjjoin : Spec := ⟨fun k => match k with | 0 => sF_tscal | 1 => sF_vjoin | _ => fun _ => [], fun k => match k with | _ => fun _ => True⟩
set_option maxRecDepth 100000 in
theorem sR_tjjoin : treeIs tys_SdC [sM_tscal 0, sM_vjoin 1] [] [] [] 200 Try.f19 [.agg kTy, .agg kTy, .one (.fn 20), .one .bool] [.agg kTy] false (v_Ty ( v_Ty ( .bool :: ([])))) sT_tjjoin := ⟨by kernel_rfl, by kernel_rfl, by kernel_rfl⟩
set_option maxRecDepth 100000 in
set_option maxHeartbeats 8000000 in
theorem sX_tjjoin (a : Ty) (ha : Ty.ok a) (b : Ty) (hb : Ty.ok b)  (t : Bool) (ρ : Env) (g : varsD ρ 0 (v_Ty ( v_Ty ( .bool :: ([])))) = (d_Ty a ( d_Ty b ( .z (b2i t) :: ([]))))) : sT_tjjoin.asks sP_tjjoin (fun ρ e => e.D ρ = sF_tjjoin (d_Ty a ( d_Ty b ( .z (b2i t) :: ([]))))) ρ fun _ _ => False := by
  simp only [d_Ty, v_Ty, varsD, varD, List.cons.injEq, Dt.z.injEq, Dt.l.injEq, b2i_eq_iff, Nat.reduceAdd, and_true] at g
  simp only [sT_tjjoin, sP_tjjoin, d_Ty, kSc, kTy, sF_tscal, sF_vjoin, sV_vjoin, sF_tjjoin, sV_tjjoin, Tr.asks, upd_same, okDs, okD, eqs, E.I, E.B, E.L, E.R, E.D, E.vs, dI, dB, dL, varD, varsD, List.getElem?_cons_zero, List.getElem?_cons_succ, List.cons_append, List.nil_append, Nat.zero_add, Nat.add_zero, Nat.reduceAdd, and_true, true_and, b2i_one, -eq_self, etasX, g]
  refine ⟨fun c0 => ?_, fun c0 => ?_⟩
  · rw [tj_a c0]; try rfl
  refine ⟨fun c1 => ?_, fun c1 => ?_⟩
  · rw [tj_b c1]; try rfl
  refine ⟨fun c2 => ?_, fun c2 => ?_⟩
  refine ⟨fun c3 => ?_, fun c3 => ?_⟩
  intro e; (try simp only [e, etasX, -eq_self]); clear e
  · rw [tj_1 c0 c1 c2 c3]; try rfl
  refine ⟨fun c4 => ?_, fun c4 => ?_⟩
  refine ⟨fun c5 => ?_, fun c5 => ?_⟩
  refine ⟨fun c6 => ?_, fun c6 => ?_⟩
  · rw [tj_p c0 c1 c2 c3, tlo_t c4 c5, thi_t c4 c6]; try rfl
  · rw [tj_p c0 c1 c2 c3, tlo_t c4 c5, thi_n c6]; try rfl
  refine ⟨fun c7 => ?_, fun c7 => ?_⟩
  · rw [tj_p c0 c1 c2 c3, tlo_n c5, thi_t c4 c7]; try rfl
  · rw [tj_p c0 c1 c2 c3, tlo_n c5, thi_n c7]; try rfl
  · rw [tj_p c0 c1 c2 c3, tlo_f c4, thi_f c4]; try rfl
  intro e; (try simp only [e, etasX, -eq_self]); clear e
  · rw [tj_ne c0 c1 c2]; try rfl
theorem sK_tjjoin {sp : Spec} {key : Nat} (hF : sp.F key = sF_tjjoin) (hP : sp.pre key = fun _ => True := by rfl) : SmOk Try.prog sp (sM_tjjoin key) :=
  fun_ok (s := sM_tjjoin key) hF hP (by kernel_rfl) tysok_SdC (smc (sK_tscal rfl) (smc (sK_vjoin rfl) sm0)) Try.func19 fn0 sR_tjjoin (.inl rfl) (for_Ty fun q0 gq0 => for_Ty fun q1 gq1 => fun x18 hp ρ g => sX_tjjoin q0 gq0 q1 gq1 x18 ρ g)
def sM_tcjoin (key : Nat) : Sm := ⟨18, key, [.agg kTy, .agg kTy], [.agg kTy], false⟩
def sV_tcjoin (a : Ty) (b : Ty) : List Dt := d_Ty (tjoin false a b) ([])
def sF_tcjoin : List Dt → List Dt
  | [.z x0, .z x1, .z x2, .z x3, .z x4, .z x5, .z x6, .z x7, .z x8, .z x9, .z x10, .z x11, .z x12, .z x13, .z x14, .z x15, .z x16, .z x17] => sV_tcjoin ⟨x0, x1, x2, x3, x4, x5, x6, x7, x8⟩ ⟨x9, x10, x11, x12, x13, x14, x15, x16, x17⟩
  | _ => []
def sT_tcjoin : Tr :=
(.call 0 (kTy) (.vs 0 18 (.consb (.tt false) .nil)) 18
(.leaf (.vs 18 9 .nil)))
def sP_tcjoin : Spec := ⟨fun k => match k with | 0 => sF_tjjoin | _ => fun _ => [], fun k => match k with | _ => fun _ => True⟩
set_option maxRecDepth 100000 in
theorem sR_tcjoin : treeIs tys_SdC [sM_tjjoin 0] [] [] [] 200 Try.f18 [.agg kTy, .agg kTy] [.agg kTy] false (v_Ty ( v_Ty ([]))) sT_tcjoin := ⟨by kernel_rfl, by kernel_rfl, by kernel_rfl⟩
set_option maxRecDepth 100000 in
set_option maxHeartbeats 8000000 in
theorem sX_tcjoin (a : Ty) (ha : Ty.ok a) (b : Ty) (hb : Ty.ok b) (ρ : Env) (g : varsD ρ 0 (v_Ty ( v_Ty ([]))) = (d_Ty a ( d_Ty b ([])))) : sT_tcjoin.asks sP_tcjoin (fun ρ e => e.D ρ = sF_tcjoin (d_Ty a ( d_Ty b ([])))) ρ fun _ _ => False := by
  simp only [d_Ty, v_Ty, varsD, varD, List.cons.injEq, Dt.z.injEq, Dt.l.injEq, b2i_eq_iff, Nat.reduceAdd, and_true] at g
  simp only [sT_tcjoin, sP_tcjoin, d_Ty, kTy, sF_tjjoin, sV_tjjoin, sF_tcjoin, sV_tcjoin, Tr.asks, upd_same, okDs, okD, eqs, E.I, E.B, E.L, E.R, E.D, E.vs, dI, dB, dL, varD, varsD, List.getElem?_cons_zero, List.getElem?_cons_succ, List.cons_append, List.nil_append, Nat.zero_add, Nat.add_zero, Nat.reduceAdd, and_true, true_and, b2i_one, -eq_self, etasX, g]
  intro e; (try simp only [e, etasX, -eq_self]); clear e
  · rfl
theorem sK_tcjoin {sp : Spec} {key : Nat} (hF : sp.F key = sF_tcjoin) (hP : sp.pre key = fun _ => True := by rfl) : SmOk Try.prog sp (sM_tcjoin key) :=
  fun_ok (s := sM_tcjoin key) hF hP (by kernel_rfl) tysok_SdC (smc (sK_tjjoin rfl) sm0) Try.func18 fn0 sR_tcjoin (.inl rfl) (for_Ty fun q0 gq0 => for_Ty fun q1 gq1 => fun  hp ρ g => sX_tcjoin q0 gq0 q1 gq1 ρ g)
def sM_tejoin (key : Nat) : Sm := ⟨17, key, [.agg kSta, .agg kSta, .one (.fn 18)], [.agg kSta, .one (.int .i64)], true⟩
def sV_tejoin (a : Sta) (b : Sta) : List Dt := d_Sta (sjoin false a b) ( .z (serr a b) :: ([]))
def sF_tejoin : List Dt → List Dt := rd_Sta fun a => rd_Sta fun b => fun _ => sV_tejoin a b
set_option maxRecDepth 100000 in
def sT_tejoin : Tr :=
(.call 0 ([.bool]) (.vs 0 171 .nil) 342
(.br (.bvar 342)
(.call 0 ([.bool]) (.vs 171 171 .nil) 343
(.br (.bvar 343)
(.call 1 (kTy) (.vs 0 9 (.vs 171 9 .nil)) 344
(.call 1 (kTy) (.vs 9 9 (.vs 180 9 .nil)) 353
(.call 1 (kTy) (.vs 18 9 (.vs 189 9 .nil)) 362
(.call 1 (kTy) (.vs 27 9 (.vs 198 9 .nil)) 371
(.call 1 (kTy) (.vs 36 9 (.vs 207 9 .nil)) 380
(.call 1 (kTy) (.vs 45 9 (.vs 216 9 .nil)) 389
(.call 1 (kTy) (.vs 54 9 (.vs 225 9 .nil)) 398
(.call 1 (kTy) (.vs 63 9 (.vs 234 9 .nil)) 407
(.call 1 (kTy) (.vs 72 9 (.vs 243 9 .nil)) 416
(.call 1 (kTy) (.vs 81 9 (.vs 252 9 .nil)) 425
(.call 1 (kTy) (.vs 90 9 (.vs 261 9 .nil)) 434
(.call 1 (kTy) (.vs 99 9 (.vs 270 9 .nil)) 443
(.call 1 (kTy) (.vs 108 9 (.vs 279 9 .nil)) 452
(.call 1 (kTy) (.vs 117 9 (.vs 288 9 .nil)) 461
(.call 1 (kTy) (.vs 126 9 (.vs 297 9 .nil)) 470
(.call 1 (kTy) (.vs 135 9 (.vs 306 9 .nil)) 479
(.call 1 (kTy) (.vs 144 9 (.vs 315 9 .nil)) 488
(.call 1 (kTy) (.vs 153 9 (.vs 324 9 .nil)) 497
(.call 1 (kTy) (.vs 162 9 (.vs 333 9 .nil)) 506
(.leaf (.vs 344 171 (.cons (.lit 0) .nil))))))))))))))))))))))
(.leaf (.cons (.lit 0) (.cons (.lit 0) (.cons (.lit 0) (.cons (.lit 0) (.cons (.lit 0) (.cons (.lit 0) (.cons (.lit 0) (.cons (.lit 0) (.cons (.lit 0) (.cons (.lit 0) (.cons (.lit 0) (.cons (.lit 0) (.cons (.lit 0) (.cons (.lit 0) (.cons (.lit 0) (.cons (.lit 0) (.cons (.lit 0) (.cons (.lit 0) (.cons (.lit 0) (.cons (.lit 0) (.cons (.lit 0) (.cons (.lit 0) (.cons (.lit 0) (.cons (.lit 0) (.cons (.lit 0) (.cons (.lit 0) (.cons (.lit 0) (.cons (.lit 0) (.cons (.lit 0) (.cons (.lit 0) (.cons (.lit 0) (.cons (.lit 0) (.cons (.lit 0) (.cons (.lit 0) (.cons (.lit 0) (.cons (.lit 0) (.cons (.lit 0) (.cons (.lit 0) (.cons (.lit 0) (.cons (.lit 0) (.cons (.lit 0) (.cons (.lit 0) (.cons (.lit 0) (.cons (.lit 0) (.cons (.lit 0) (.cons (.lit 0) (.cons (.lit 0) (.cons (.lit 0) (.cons (.lit 0) (.cons (.lit 0) (.cons (.lit 0) (.cons (.lit 0) (.cons (.lit 0) (.cons (.lit 0) (.cons (.lit 0) (.cons (.lit 0) (.cons (.lit 0) (.cons (.lit 0) (.cons (.lit 0) (.cons (.lit 0) (.cons (.lit 0) (.cons (.lit 0) (.cons (.lit 0) (.cons (.lit 0) (.cons (.lit 0) (.cons (.lit 0) (.cons (.lit 0) (.cons (.lit 0) (.cons (.lit 0) (.cons (.lit 0) (.cons (.lit 0) (.cons (.lit 0) (.cons (.lit 0) (.cons (.lit 0) (.cons (.lit 0) (.cons (.lit 0) (.cons (.lit 0) (.cons (.lit 0) (.cons (.lit 0) (.cons (.lit 0) (.cons (.lit 0) (.cons (.lit 0) (.cons (.lit 0) (.cons (.lit 0) (.cons (.lit 0) (.cons (.lit 0) (.cons (.lit 0) (.cons (.lit 0) (.cons (.lit 0) (.cons (.lit 0) (.cons (.lit 0) (.cons (.lit 0) (.cons (.lit 0) (.cons (.lit 0) (.cons (.lit 0) (.cons (.lit 0) (.cons (.lit 0) (.cons (.lit 0) (.cons (.lit 0) (.cons (.lit 0) (.cons (.lit 0) (.cons (.lit 0) (.cons (.lit 0) (.cons (.lit 0) (.cons (.lit 0) (.cons (.lit 0) (.cons (.lit 0) (.cons (.lit 0) (.cons (.lit 0) (.cons (.lit 0) (.cons (.lit 0) (.cons (.lit 0) (.cons (.lit 0) (.cons (.lit 0) (.cons (.lit 0) (.cons (.lit 0) (.cons (.lit 0) (.cons (.lit 0) (.cons (.lit 0) (.cons (.lit 0) (.cons (.lit 0) (.cons (.lit 0) (.cons (.lit 0) (.cons (.lit 0) (.cons (.lit 0) (.cons (.lit 0) (.cons (.lit 0) (.cons (.lit 0) (.cons (.lit 0) (.cons (.lit 0) (.cons (.lit 0) (.cons (.lit 0) (.cons (.lit 0) (.cons (.lit 0) (.cons (.lit 0) (.cons (.lit 0) (.cons (.lit 0) (.cons (.lit 0) (.cons (.lit 0) (.cons (.lit 0) (.cons (.lit 0) (.cons (.lit 0) (.cons (.lit 0) (.cons (.lit 0) (.cons (.lit 0) (.cons (.lit 0) (.cons (.lit 0) (.cons (.lit 0) (.cons (.lit 0) (.cons (.lit 0) (.cons (.lit 0) (.cons (.lit 0) (.cons (.lit 0) (.cons (.lit 0) (.cons (.lit 0) (.cons (.lit 0) (.cons (.lit 0) (.cons (.lit 0) (.cons (.lit 0) (.cons (.lit 0) (.cons (.lit 0) (.cons (.lit 0) (.cons (.lit 0) (.cons (.lit 0) (.cons (.lit 0) (.cons (.lit 0) (.cons (.lit 0) (.cons (.lit 0) (.cons (.lit 0) (.cons (.lit 0) (.cons (.lit 0) (.cons (.lit 2) .nil)))))))))))))))))))))))))))))))))))))))))))))))))))))))))))))))))))))))))))))))))))))))))))))))))))))))))))))))))))))))))))))))))))))))))))))))))))))))))))))))))))))))))))))))
(.leaf (.cons (.lit 0) (.cons (.lit 0) (.cons (.lit 0) (.cons (.lit 0) (.cons (.lit 0) (.cons (.lit 0) (.cons (.lit 0) (.cons (.lit 0) (.cons (.lit 0) (.cons (.lit 0) (.cons (.lit 0) (.cons (.lit 0) (.cons (.lit 0) (.cons (.lit 0) (.cons (.lit 0) (.cons (.lit 0) (.cons (.lit 0) (.cons (.lit 0) (.cons (.lit 0) (.cons (.lit 0) (.cons (.lit 0) (.cons (.lit 0) (.cons (.lit 0) (.cons (.lit 0) (.cons (.lit 0) (.cons (.lit 0) (.cons (.lit 0) (.cons (.lit 0) (.cons (.lit 0) (.cons (.lit 0) (.cons (.lit 0) (.cons (.lit 0) (.cons (.lit 0) (.cons (.lit 0) (.cons (.lit 0) (.cons (.lit 0) (.cons (.lit 0) (.cons (.lit 0) (.cons (.lit 0) (.cons (.lit 0) (.cons (.lit 0) (.cons (.lit 0) (.cons (.lit 0) (.cons (.lit 0) (.cons (.lit 0) (.cons (.lit 0) (.cons (.lit 0) (.cons (.lit 0) (.cons (.lit 0) (.cons (.lit 0) (.cons (.lit 0) (.cons (.lit 0) (.cons (.lit 0) (.cons (.lit 0) (.cons (.lit 0) (.cons (.lit 0) (.cons (.lit 0) (.cons (.lit 0) (.cons (.lit 0) (.cons (.lit 0) (.cons (.lit 0) (.cons (.lit 0) (.cons (.lit 0) (.cons (.lit 0) (.cons (.lit 0) (.cons (.lit 0) (.cons (.lit 0) (.cons (.lit 0) (.cons (.lit 0) (.cons (.lit 0) (.cons (.lit 0) (.cons (.lit 0) (.cons (.lit 0) (.cons (.lit 0) (.cons (.lit 0) (.cons (.lit 0) (.cons (.lit 0) (.cons (.lit 0) (.cons (.lit 0) (.cons (.lit 0) (.cons (.lit 0) (.cons (.lit 0) (.cons (.lit 0) (.cons (.lit 0) (.cons (.lit 0) (.cons (.lit 0) (.cons (.lit 0) (.cons (.lit 0) (.cons (.lit 0) (.cons (.lit 0) (.cons (.lit 0) (.cons (.lit 0) (.cons (.lit 0) (.cons (.lit 0) (.cons (.lit 0) (.cons (.lit 0) (.cons (.lit 0) (.cons (.lit 0) (.cons (.lit 0) (.cons (.lit 0) (.cons (.lit 0) (.cons (.lit 0) (.cons (.lit 0) (.cons (.lit 0) (.cons (.lit 0) (.cons (.lit 0) (.cons (.lit 0) (.cons (.lit 0) (.cons (.lit 0) (.cons (.lit 0) (.cons (.lit 0) (.cons (.lit 0) (.cons (.lit 0) (.cons (.lit 0) (.cons (.lit 0) (.cons (.lit 0) (.cons (.lit 0) (.cons (.lit 0) (.cons (.lit 0) (.cons (.lit 0) (.cons (.lit 0) (.cons (.lit 0) (.cons (.lit 0) (.cons (.lit 0) (.cons (.lit 0) (.cons (.lit 0) (.cons (.lit 0) (.cons (.lit 0) (.cons (.lit 0) (.cons (.lit 0) (.cons (.lit 0) (.cons (.lit 0) (.cons (.lit 0) (.cons (.lit 0) (.cons (.lit 0) (.cons (.lit 0) (.cons (.lit 0) (.cons (.lit 0) (.cons (.lit 0) (.cons (.lit 0) (.cons (.lit 0) (.cons (.lit 0) (.cons (.lit 0) (.cons (.lit 0) (.cons (.lit 0) (.cons (.lit 0) (.cons (.lit 0) (.cons (.lit 0) (.cons (.lit 0) (.cons (.lit 0) (.cons (.lit 0) (.cons (.lit 0) (.cons (.lit 0) (.cons (.lit 0) (.cons (.lit 0) (.cons (.lit 0) (.cons (.lit 0) (.cons (.lit 0) (.cons (.lit 0) (.cons (.lit 0) (.cons (.lit 0) (.cons (.lit 0) (.cons (.lit 0) (.cons (.lit 0) (.cons (.lit 0) (.cons (.lit 0) (.cons (.lit 0) (.cons (.lit 0) (.cons (.lit 0) (.cons (.lit 0) (.cons (.lit 0) (.cons (.lit 2) .nil)))))))))))))))))))))))))))))))))))))))))))))))))))))))))))))))))))))))))))))))))))))))))))))))))))))))))))))))))))))))))))))))))))))))))))))))))))))))))))))))))))))))))))))))
def sP_tejoin : Spec := ⟨fun k => match k with | 0 => sF_tmay | 1 => sF_tcjoin | _ => fun _ => [], fun k => match k with | _ => fun _ => True⟩
set_option maxRecDepth 100000 in
theorem sR_tejoin : treeIs tys_SdC [sM_tmay 0, sM_tcjoin 1] [] [] [] 200 Try.f17 [.agg kSta, .agg kSta, .one (.fn 18)] [.agg kSta, .one (.int .i64)] true (v_Sta ( v_Sta ([]))) sT_tejoin := ⟨by kernel_rfl, by kernel_rfl, by kernel_rfl⟩
set_option maxRecDepth 100000 in
set_option maxHeartbeats 8000000 in
theorem sX_tejoin (a : Sta) (ha : Sta.ok a) (b : Sta) (hb : Sta.ok b)  (ρ : Env) (g : varsD ρ 0 (v_Sta ( v_Sta ([]))) = (d_Sta a ( d_Sta b ([])))) : sT_tejoin.asks sP_tejoin (fun ρ e => e.D ρ = sF_tejoin (d_Sta a ( d_Sta b ([])))) ρ fun _ _ => False := by
  simp only [sF_tejoin, rd_Sta_d, rd_Ty_d, rdZ, rdB]
  simp only [d_Sta, d_Ty, v_Sta, v_Ty, varsD, varD, List.cons.injEq, Dt.z.injEq, Dt.l.injEq, b2i_eq_iff, Nat.reduceAdd, and_true] at g
  simp (maxSteps := 10000000) only [sT_tejoin, sP_tejoin, d_Sta, d_Ty, kTy, rd_Sta, rd_Ty, sF_tmay, sF_tcjoin, sV_tmay, sV_tcjoin, sF_tejoin, sV_tejoin, Tr.asks, upd_same, okDs, okD, eqs, E.I, E.B, E.L, E.R, E.D, E.vs, dI, dB, dL, varD, varsD, List.getElem?_cons_zero, List.getElem?_cons_succ, List.cons_append, List.nil_append, Nat.zero_add, Nat.add_zero, Nat.reduceAdd, and_true, true_and, b2i_one, -eq_self, etasX, g]
  intro e; (try simp only [e, etasX, -eq_self]); clear e
  refine ⟨fun c0 => ?_, fun c0 => ?_⟩
  intro e; (try simp only [e, etasX, -eq_self]); clear e
  refine ⟨fun c1 => ?_, fun c1 => ?_⟩
  intro e; (try simp only [e, etasX, -eq_self]); clear e
  intro e; (try simp only [e, etasX, -eq_self]); clear e
  intro e; (try simp only [e, etasX, -eq_self]); clear e
  intro e; (try simp only [e, etasX, -eq_self]); clear e
  intro e; (try simp only [e, etasX, -eq_self]); clear e
  intro e; (try simp only [e, etasX, -eq_self]); clear e
  intro e; (try simp only [e, etasX, -eq_self]); clear e
  intro e; (try simp only [e, etasX, -eq_self]); clear e
  intro e; (try simp only [e, etasX, -eq_self]); clear e
  intro e; (try simp only [e, etasX, -eq_self]); clear e
  intro e; (try simp only [e, etasX, -eq_self]); clear e
  intro e; (try simp only [e, etasX, -eq_self]); clear e
  intro e; (try simp only [e, etasX, -eq_self]); clear e
  intro e; (try simp only [e, etasX, -eq_self]); clear e
  intro e; (try simp only [e, etasX, -eq_self]); clear e
  intro e; (try simp only [e, etasX, -eq_self]); clear e
  intro e; (try simp only [e, etasX, -eq_self]); clear e
  intro e; (try simp only [e, etasX, -eq_self]); clear e
  intro e; (try simp only [e, etasX, -eq_self]); clear e
  · rw [(sj_yes c0 c1).1, (sj_yes (w := true) c0 c1).2]; rfl
  · rw [(sj_no (.inr c1)).1, (sj_no (w := true) (.inr c1)).2]; rfl
  · rw [(sj_no (.inl c0)).1, (sj_no (w := true) (.inl c0)).2]; rfl
theorem sK_tejoin {sp : Spec} {key : Nat} (hF : sp.F key = sF_tejoin) (hP : sp.pre key = fun _ => True := by rfl) : SmOk Try.prog sp (sM_tejoin key) :=
  fun_ok (s := sM_tejoin key) hF hP (by kernel_rfl) tysok_SdC (smc (sK_tmay rfl) (smc (sK_tcjoin rfl) sm0)) Try.func17 fn0 sR_tejoin (.inl rfl) (for_Sta fun q0 gq0 => for_Sta fun q1 gq1 => fun  hp ρ g => sX_tejoin q0 gq0 q1 gq1 ρ g)
def sM_tsjoin (key : Nat) : Sm := ⟨7, key, [.agg kSta, .agg kSta], [.agg kSta, .one (.int .i64)], true⟩
def sV_tsjoin (a : Sta) (b : Sta) : List Dt := d_Sta (sjoin false a b) ( .z (serr a b) :: ([]))
def sF_tsjoin : List Dt → List Dt := rd_Sta fun a => rd_Sta fun b => fun _ => sV_tsjoin a b
def sT_tsjoin : Tr :=
(.call 0 (kSta ++ [.int .i64]) (.vs 0 342 .nil) 342
(.leaf (.vs 342 172 .nil)))
def sP_tsjoin : Spec := ⟨fun k => match k with | 0 => sF_tejoin | _ => fun _ => [], fun k => match k with | _ => fun _ => True⟩
set_option maxRecDepth 100000 in
theorem sR_tsjoin : treeIs tys_SdC [sM_tejoin 0] [] [] [] 200 Try.f7 [.agg kSta, .agg kSta] [.agg kSta, .one (.int .i64)] true (v_Sta ( v_Sta ([]))) sT_tsjoin := ⟨by kernel_rfl, by kernel_rfl, by kernel_rfl⟩
set_option maxRecDepth 100000 in
set_option maxHeartbeats 8000000 in
theorem sX_tsjoin (a : Sta) (ha : Sta.ok a) (b : Sta) (hb : Sta.ok b) (ρ : Env) (g : varsD ρ 0 (v_Sta ( v_Sta ([]))) = (d_Sta a ( d_Sta b ([])))) : sT_tsjoin.asks sP_tsjoin (fun ρ e => e.D ρ = sF_tsjoin (d_Sta a ( d_Sta b ([])))) ρ fun _ _ => False := by
  simp only [sF_tsjoin, rd_Sta_d, rd_Ty_d, rdZ, rdB]
  simp only [d_Sta, d_Ty, v_Sta, v_Ty, varsD, varD, List.cons.injEq, Dt.z.injEq, Dt.l.injEq, b2i_eq_iff, Nat.reduceAdd, and_true] at g
  simp (maxSteps := 10000000) only [sT_tsjoin, sP_tsjoin, d_Sta, d_Ty, kSta, rd_Sta, rd_Ty, sF_tejoin, sV_tejoin, sF_tsjoin, sV_tsjoin, Tr.asks, upd_same, okDs, okD, eqs, E.I, E.B, E.L, E.R, E.D, E.vs, dI, dB, dL, varD, varsD, List.getElem?_cons_zero, List.getElem?_cons_succ, List.cons_append, List.nil_append, Nat.zero_add, Nat.add_zero, Nat.reduceAdd, and_true, true_and, b2i_one, -eq_self, etasX, g]
  intro e; (try simp only [e, etasX, -eq_self]); clear e
  · rfl
theorem sK_tsjoin {sp : Spec} {key : Nat} (hF : sp.F key = sF_tsjoin) (hP : sp.pre key = fun _ => True := by rfl) : SmOk Try.prog sp (sM_tsjoin key) :=
  fun_ok (s := sM_tsjoin key) hF hP (by kernel_rfl) tysok_SdC (smc (sK_tejoin rfl) sm0) Try.func7 fn0 sR_tsjoin (.inl rfl) (for_Sta fun q0 gq0 => for_Sta fun q1 gq1 => fun  hp ρ g => sX_tsjoin q0 gq0 q1 gq1 ρ g)
def sM_tjwid (key : Nat) : Sm := ⟨19, key, [.agg kTy, .agg kTy, .one (.fn 22), .one .bool], [.agg kTy], false⟩
def sV_tjwid (a : Ty) (b : Ty) (t : Bool) : List Dt := d_Ty (tjoin2 true t a b) ([])
def sF_tjwid : List Dt → List Dt
  | [.z x0, .z x1, .z x2, .z x3, .z x4, .z x5, .z x6, .z x7, .z x8, .z x9, .z x10, .z x11, .z x12, .z x13, .z x14, .z x15, .z x16, .z x17, .z x18] => sV_tjwid ⟨x0, x1, x2, x3, x4, x5, x6, x7, x8⟩ ⟨x9, x10, x11, x12, x13, x14, x15, x16, x17⟩ (x18 == 1)
  | _ => []
def sT_tjwid : Tr :=
(.br (.eq (.var 0) (.lit 0))
(.leaf (.cons (.lit 0) (.cons (.lit 0) (.cons (.lit 0) (.cons (.lit 0) (.cons (.lit 0) (.cons (.lit 0) (.cons (.lit 0) (.cons (.lit 0) (.cons (.lit 0) .nil))))))))))
(.br (.eq (.var 9) (.lit 0))
(.leaf (.cons (.lit 0) (.cons (.lit 0) (.cons (.lit 0) (.cons (.lit 0) (.cons (.lit 0) (.cons (.lit 0) (.cons (.lit 0) (.cons (.lit 0) (.cons (.lit 0) .nil))))))))))
(.br (.eq (.var 0) (.var 9))
(.br (.eq (.var 0) (.lit 1))
(.call 1 (kSc) (.vs 1 6 (.vs 10 6 .nil)) 19
(.leaf (.cons (.var 0) (.vs 19 6 (.cons (.lit 0) (.cons (.lit 0) .nil))))))
(.br (.bvar 18)
(.br (.lt (.mn (.var 7) (.var 16)) (.var 7))
(.br (.lt (.var 8) (.mx (.var 8) (.var 17)))
(.leaf (.cons (.var 0) (.cons (.lit 0) (.cons (.lit 0) (.cons (.lit 0) (.cons (.lit 0) (.cons (.lit 0) (.cons (.lit 0) (.cons (.lit (-1048576)) (.cons (.lit 1048576) .nil))))))))))
(.leaf (.cons (.var 0) (.cons (.lit 0) (.cons (.lit 0) (.cons (.lit 0) (.cons (.lit 0) (.cons (.lit 0) (.cons (.lit 0) (.cons (.lit (-1048576)) (.cons (.mx (.var 8) (.var 17)) .nil)))))))))))
(.br (.lt (.var 8) (.mx (.var 8) (.var 17)))
(.leaf (.cons (.var 0) (.cons (.lit 0) (.cons (.lit 0) (.cons (.lit 0) (.cons (.lit 0) (.cons (.lit 0) (.cons (.lit 0) (.cons (.mn (.var 7) (.var 16)) (.cons (.lit 1048576) .nil))))))))))
(.leaf (.cons (.var 0) (.cons (.lit 0) (.cons (.lit 0) (.cons (.lit 0) (.cons (.lit 0) (.cons (.lit 0) (.cons (.lit 0) (.cons (.mn (.var 7) (.var 16)) (.cons (.mx (.var 8) (.var 17)) .nil))))))))))))
(.leaf (.cons (.var 0) (.cons (.lit 0) (.cons (.lit 0) (.cons (.lit 0) (.cons (.lit 0) (.cons (.lit 0) (.cons (.lit 0) (.cons (.mn (.var 7) (.var 16)) (.cons (.mx (.var 8) (.var 17)) .nil))))))))))))
(.call 0 (kTy) .nil 19
(.leaf (.vs 19 9 .nil))))))
def sP_tjwid : Spec := ⟨fun k => match k with | 0 => sF_tscal | 1 => sF_vwid | _ => fun _ => [], fun k => match k with | _ => fun _ => True⟩
set_option maxRecDepth 100000 in
theorem sR_tjwid : treeIs tys_SdC [sM_tscal 0, sM_vwid 1] [] [] [] 200 Try.f19 [.agg kTy, .agg kTy, .one (.fn 22), .one .bool] [.agg kTy] false (v_Ty ( v_Ty ( .bool :: ([])))) sT_tjwid := ⟨by kernel_rfl, by kernel_rfl, by kernel_rfl⟩
set_option maxRecDepth 100000 in
set_option maxHeartbeats 8000000 in
theorem sX_tjwid (a : Ty) (ha : Ty.ok a) (b : Ty) (hb : Ty.ok b)  (t : Bool) (ρ : Env) (g : varsD ρ 0 (v_Ty ( v_Ty ( .bool :: ([])))) = (d_Ty a ( d_Ty b ( .z (b2i t) :: ([]))))) : sT_tjwid.asks sP_tjwid (fun ρ e => e.D ρ = sF_tjwid (d_Ty a ( d_Ty b ( .z (b2i t) :: ([]))))) ρ fun _ _ => False := by
  simp only [d_Ty, v_Ty, varsD, varD, List.cons.injEq, Dt.z.injEq, Dt.l.injEq, b2i_eq_iff, Nat.reduceAdd, and_true] at g
  simp only [sT_tjwid, sP_tjwid, d_Ty, kSc, kTy, sF_tscal, sF_vwid, sV_vwid, sF_tjwid, sV_tjwid, Tr.asks, upd_same, okDs, okD, eqs, E.I, E.B, E.L, E.R, E.D, E.vs, dI, dB, dL, varD, varsD, List.getElem?_cons_zero, List.getElem?_cons_succ, List.cons_append, List.nil_append, Nat.zero_add, Nat.add_zero, Nat.reduceAdd, and_true, true_and, b2i_one, -eq_self, etasX, g]
  refine ⟨fun c0 => ?_, fun c0 => ?_⟩
  · rw [tj_a c0]; try rfl
  refine ⟨fun c1 => ?_, fun c1 => ?_⟩
  · rw [tj_b c1]; try rfl
  refine ⟨fun c2 => ?_, fun c2 => ?_⟩
  refine ⟨fun c3 => ?_, fun c3 => ?_⟩
  intro e; (try simp only [e, etasX, -eq_self]); clear e
  · rw [tj_1 c0 c1 c2 c3]; try rfl
  refine ⟨fun c4 => ?_, fun c4 => ?_⟩
  refine ⟨fun c5 => ?_, fun c5 => ?_⟩
  refine ⟨fun c6 => ?_, fun c6 => ?_⟩
  · rw [tj_p c0 c1 c2 c3, tlo_t c4 c5, thi_t c4 c6]; try rfl
  · rw [tj_p c0 c1 c2 c3, tlo_t c4 c5, thi_n c6]; try rfl
  refine ⟨fun c7 => ?_, fun c7 => ?_⟩
  · rw [tj_p c0 c1 c2 c3, tlo_n c5, thi_t c4 c7]; try rfl
  · rw [tj_p c0 c1 c2 c3, tlo_n c5, thi_n c7]; try rfl
  · rw [tj_p c0 c1 c2 c3, tlo_f c4, thi_f c4]; try rfl
  intro e; (try simp only [e, etasX, -eq_self]); clear e
  · rw [tj_ne c0 c1 c2]; try rfl
theorem sK_tjwid {sp : Spec} {key : Nat} (hF : sp.F key = sF_tjwid) (hP : sp.pre key = fun _ => True := by rfl) : SmOk Try.prog sp (sM_tjwid key) :=
  fun_ok (s := sM_tjwid key) hF hP (by kernel_rfl) tysok_SdC (smc (sK_tscal rfl) (smc (sK_vwid rfl) sm0)) Try.func19 fn0 sR_tjwid (.inl rfl) (for_Ty fun q0 gq0 => for_Ty fun q1 gq1 => fun x18 hp ρ g => sX_tjwid q0 gq0 q1 gq1 x18 ρ g)
def sM_tcwid (key : Nat) : Sm := ⟨21, key, [.agg kTy, .agg kTy], [.agg kTy], false⟩
def sV_tcwid (a : Ty) (b : Ty) : List Dt := d_Ty (tjoin true a b) ([])
def sF_tcwid : List Dt → List Dt
  | [.z x0, .z x1, .z x2, .z x3, .z x4, .z x5, .z x6, .z x7, .z x8, .z x9, .z x10, .z x11, .z x12, .z x13, .z x14, .z x15, .z x16, .z x17] => sV_tcwid ⟨x0, x1, x2, x3, x4, x5, x6, x7, x8⟩ ⟨x9, x10, x11, x12, x13, x14, x15, x16, x17⟩
  | _ => []
def sT_tcwid : Tr :=
(.call 0 (kTy) (.vs 0 18 (.consb (.tt true) .nil)) 18
(.leaf (.vs 18 9 .nil)))
def sP_tcwid : Spec := ⟨fun k => match k with | 0 => sF_tjwid | _ => fun _ => [], fun k => match k with | _ => fun _ => True⟩
set_option maxRecDepth 100000 in
theorem sR_tcwid : treeIs tys_SdC [sM_tjwid 0] [] [] [] 200 Try.f21 [.agg kTy, .agg kTy] [.agg kTy] false (v_Ty ( v_Ty ([]))) sT_tcwid := ⟨by kernel_rfl, by kernel_rfl, by kernel_rfl⟩
set_option maxRecDepth 100000 in
set_option maxHeartbeats 8000000 in
theorem sX_tcwid (a : Ty) (ha : Ty.ok a) (b : Ty) (hb : Ty.ok b) (ρ : Env) (g : varsD ρ 0 (v_Ty ( v_Ty ([]))) = (d_Ty a ( d_Ty b ([])))) : sT_tcwid.asks sP_tcwid (fun ρ e => e.D ρ = sF_tcwid (d_Ty a ( d_Ty b ([])))) ρ fun _ _ => False := by
  simp only [d_Ty, v_Ty, varsD, varD, List.cons.injEq, Dt.z.injEq, Dt.l.injEq, b2i_eq_iff, Nat.reduceAdd, and_true] at g
  simp only [sT_tcwid, sP_tcwid, d_Ty, kTy, sF_tjwid, sV_tjwid, sF_tcwid, sV_tcwid, Tr.asks, upd_same, okDs, okD, eqs, E.I, E.B, E.L, E.R, E.D, E.vs, dI, dB, dL, varD, varsD, List.getElem?_cons_zero, List.getElem?_cons_succ, List.cons_append, List.nil_append, Nat.zero_add, Nat.add_zero, Nat.reduceAdd, and_true, true_and, b2i_one, -eq_self, etasX, g]
  intro e; (try simp only [e, etasX, -eq_self]); clear e
  · rfl
theorem sK_tcwid {sp : Spec} {key : Nat} (hF : sp.F key = sF_tcwid) (hP : sp.pre key = fun _ => True := by rfl) : SmOk Try.prog sp (sM_tcwid key) :=
  fun_ok (s := sM_tcwid key) hF hP (by kernel_rfl) tysok_SdC (smc (sK_tjwid rfl) sm0) Try.func21 fn0 sR_tcwid (.inl rfl) (for_Ty fun q0 gq0 => for_Ty fun q1 gq1 => fun  hp ρ g => sX_tcwid q0 gq0 q1 gq1 ρ g)
def sM_tewid (key : Nat) : Sm := ⟨17, key, [.agg kSta, .agg kSta, .one (.fn 21)], [.agg kSta, .one (.int .i64)], true⟩
def sV_tewid (a : Sta) (b : Sta) : List Dt := d_Sta (sjoin true a b) ( .z (serr a b) :: ([]))
def sF_tewid : List Dt → List Dt := rd_Sta fun a => rd_Sta fun b => fun _ => sV_tewid a b
set_option maxRecDepth 100000 in
def sT_tewid : Tr :=
(.call 0 ([.bool]) (.vs 0 171 .nil) 342
(.br (.bvar 342)
(.call 0 ([.bool]) (.vs 171 171 .nil) 343
(.br (.bvar 343)
(.call 1 (kTy) (.vs 0 9 (.vs 171 9 .nil)) 344
(.call 1 (kTy) (.vs 9 9 (.vs 180 9 .nil)) 353
(.call 1 (kTy) (.vs 18 9 (.vs 189 9 .nil)) 362
(.call 1 (kTy) (.vs 27 9 (.vs 198 9 .nil)) 371
(.call 1 (kTy) (.vs 36 9 (.vs 207 9 .nil)) 380
(.call 1 (kTy) (.vs 45 9 (.vs 216 9 .nil)) 389
(.call 1 (kTy) (.vs 54 9 (.vs 225 9 .nil)) 398
(.call 1 (kTy) (.vs 63 9 (.vs 234 9 .nil)) 407
(.call 1 (kTy) (.vs 72 9 (.vs 243 9 .nil)) 416
(.call 1 (kTy) (.vs 81 9 (.vs 252 9 .nil)) 425
(.call 1 (kTy) (.vs 90 9 (.vs 261 9 .nil)) 434
(.call 1 (kTy) (.vs 99 9 (.vs 270 9 .nil)) 443
(.call 1 (kTy) (.vs 108 9 (.vs 279 9 .nil)) 452
(.call 1 (kTy) (.vs 117 9 (.vs 288 9 .nil)) 461
(.call 1 (kTy) (.vs 126 9 (.vs 297 9 .nil)) 470
(.call 1 (kTy) (.vs 135 9 (.vs 306 9 .nil)) 479
(.call 1 (kTy) (.vs 144 9 (.vs 315 9 .nil)) 488
(.call 1 (kTy) (.vs 153 9 (.vs 324 9 .nil)) 497
(.call 1 (kTy) (.vs 162 9 (.vs 333 9 .nil)) 506
(.leaf (.vs 344 171 (.cons (.lit 0) .nil))))))))))))))))))))))
(.leaf (.cons (.lit 0) (.cons (.lit 0) (.cons (.lit 0) (.cons (.lit 0) (.cons (.lit 0) (.cons (.lit 0) (.cons (.lit 0) (.cons (.lit 0) (.cons (.lit 0) (.cons (.lit 0) (.cons (.lit 0) (.cons (.lit 0) (.cons (.lit 0) (.cons (.lit 0) (.cons (.lit 0) (.cons (.lit 0) (.cons (.lit 0) (.cons (.lit 0) (.cons (.lit 0) (.cons (.lit 0) (.cons (.lit 0) (.cons (.lit 0) (.cons (.lit 0) (.cons (.lit 0) (.cons (.lit 0) (.cons (.lit 0) (.cons (.lit 0) (.cons (.lit 0) (.cons (.lit 0) (.cons (.lit 0) (.cons (.lit 0) (.cons (.lit 0) (.cons (.lit 0) (.cons (.lit 0) (.cons (.lit 0) (.cons (.lit 0) (.cons (.lit 0) (.cons (.lit 0) (.cons (.lit 0) (.cons (.lit 0) (.cons (.lit 0) (.cons (.lit 0) (.cons (.lit 0) (.cons (.lit 0) (.cons (.lit 0) (.cons (.lit 0) (.cons (.lit 0) (.cons (.lit 0) (.cons (.lit 0) (.cons (.lit 0) (.cons (.lit 0) (.cons (.lit 0) (.cons (.lit 0) (.cons (.lit 0) (.cons (.lit 0) (.cons (.lit 0) (.cons (.lit 0) (.cons (.lit 0) (.cons (.lit 0) (.cons (.lit 0) (.cons (.lit 0) (.cons (.lit 0) (.cons (.lit 0) (.cons (.lit 0) (.cons (.lit 0) (.cons (.lit 0) (.cons (.lit 0) (.cons (.lit 0) (.cons (.lit 0) (.cons (.lit 0) (.cons (.lit 0) (.cons (.lit 0) (.cons (.lit 0) (.cons (.lit 0) (.cons (.lit 0) (.cons (.lit 0) (.cons (.lit 0) (.cons (.lit 0) (.cons (.lit 0) (.cons (.lit 0) (.cons (.lit 0) (.cons (.lit 0) (.cons (.lit 0) (.cons (.lit 0) (.cons (.lit 0) (.cons (.lit 0) (.cons (.lit 0) (.cons (.lit 0) (.cons (.lit 0) (.cons (.lit 0) (.cons (.lit 0) (.cons (.lit 0) (.cons (.lit 0) (.cons (.lit 0) (.cons (.lit 0) (.cons (.lit 0) (.cons (.lit 0) (.cons (.lit 0) (.cons (.lit 0) (.cons (.lit 0) (.cons (.lit 0) (.cons (.lit 0) (.cons (.lit 0) (.cons (.lit 0) (.cons (.lit 0) (.cons (.lit 0) (.cons (.lit 0) (.cons (.lit 0) (.cons (.lit 0) (.cons (.lit 0) (.cons (.lit 0) (.cons (.lit 0) (.cons (.lit 0) (.cons (.lit 0) (.cons (.lit 0) (.cons (.lit 0) (.cons (.lit 0) (.cons (.lit 0) (.cons (.lit 0) (.cons (.lit 0) (.cons (.lit 0) (.cons (.lit 0) (.cons (.lit 0) (.cons (.lit 0) (.cons (.lit 0) (.cons (.lit 0) (.cons (.lit 0) (.cons (.lit 0) (.cons (.lit 0) (.cons (.lit 0) (.cons (.lit 0) (.cons (.lit 0) (.cons (.lit 0) (.cons (.lit 0) (.cons (.lit 0) (.cons (.lit 0) (.cons (.lit 0) (.cons (.lit 0) (.cons (.lit 0) (.cons (.lit 0) (.cons (.lit 0) (.cons (.lit 0) (.cons (.lit 0) (.cons (.lit 0) (.cons (.lit 0) (.cons (.lit 0) (.cons (.lit 0) (.cons (.lit 0) (.cons (.lit 0) (.cons (.lit 0) (.cons (.lit 0) (.cons (.lit 0) (.cons (.lit 0) (.cons (.lit 0) (.cons (.lit 0) (.cons (.lit 0) (.cons (.lit 0) (.cons (.lit 0) (.cons (.lit 0) (.cons (.lit 0) (.cons (.lit 0) (.cons (.lit 0) (.cons (.lit 0) (.cons (.lit 0) (.cons (.lit 0) (.cons (.lit 0) (.cons (.lit 0) (.cons (.lit 0) (.cons (.lit 0) (.cons (.lit 0) (.cons (.lit 0) (.cons (.lit 2) .nil)))))))))))))))))))))))))))))))))))))))))))))))))))))))))))))))))))))))))))))))))))))))))))))))))))))))))))))))))))))))))))))))))))))))))))))))))))))))))))))))))))))))))))))))
(.leaf (.cons (.lit 0) (.cons (.lit 0) (.cons (.lit 0) (.cons (.lit 0) (.cons (.lit 0) (.cons (.lit 0) (.cons (.lit 0) (.cons (.lit 0) (.cons (.lit 0) (.cons (.lit 0) (.cons (.lit 0) (.cons (.lit 0) (.cons (.lit 0) (.cons (.lit 0) (.cons (.lit 0) (.cons (.lit 0) (.cons (.lit 0) (.cons (.lit 0) (.cons (.lit 0) (.cons (.lit 0) (.cons (.lit 0) (.cons (.lit 0) (.cons (.lit 0) (.cons (.lit 0) (.cons (.lit 0) (.cons (.lit 0) (.cons (.lit 0) (.cons (.lit 0) (.cons (.lit 0) (.cons (.lit 0) (.cons (.lit 0) (.cons (.lit 0) (.cons (.lit 0) (.cons (.lit 0) (.cons (.lit 0) (.cons (.lit 0) (.cons (.lit 0) (.cons (.lit 0) (.cons (.lit 0) (.cons (.lit 0) (.cons (.lit 0) (.cons (.lit 0) (.cons (.lit 0) (.cons (.lit 0) (.cons (.lit 0) (.cons (.lit 0) (.cons (.lit 0) (.cons (.lit 0) (.cons (.lit 0) (.cons (.lit 0) (.cons (.lit 0) (.cons (.lit 0) (.cons (.lit 0) (.cons (.lit 0) (.cons (.lit 0) (.cons (.lit 0) (.cons (.lit 0) (.cons (.lit 0) (.cons (.lit 0) (.cons (.lit 0) (.cons (.lit 0) (.cons (.lit 0) (.cons (.lit 0) (.cons (.lit 0) (.cons (.lit 0) (.cons (.lit 0) (.cons (.lit 0) (.cons (.lit 0) (.cons (.lit 0) (.cons (.lit 0) (.cons (.lit 0) (.cons (.lit 0) (.cons (.lit 0) (.cons (.lit 0) (.cons (.lit 0) (.cons (.lit 0) (.cons (.lit 0) (.cons (.lit 0) (.cons (.lit 0) (.cons (.lit 0) (.cons (.lit 0) (.cons (.lit 0) (.cons (.lit 0) (.cons (.lit 0) (.cons (.lit 0) (.cons (.lit 0) (.cons (.lit 0) (.cons (.lit 0) (.cons (.lit 0) (.cons (.lit 0) (.cons (.lit 0) (.cons (.lit 0) (.cons (.lit 0) (.cons (.lit 0) (.cons (.lit 0) (.cons (.lit 0) (.cons (.lit 0) (.cons (.lit 0) (.cons (.lit 0) (.cons (.lit 0) (.cons (.lit 0) (.cons (.lit 0) (.cons (.lit 0) (.cons (.lit 0) (.cons (.lit 0) (.cons (.lit 0) (.cons (.lit 0) (.cons (.lit 0) (.cons (.lit 0) (.cons (.lit 0) (.cons (.lit 0) (.cons (.lit 0) (.cons (.lit 0) (.cons (.lit 0) (.cons (.lit 0) (.cons (.lit 0) (.cons (.lit 0) (.cons (.lit 0) (.cons (.lit 0) (.cons (.lit 0) (.cons (.lit 0) (.cons (.lit 0) (.cons (.lit 0) (.cons (.lit 0) (.cons (.lit 0) (.cons (.lit 0) (.cons (.lit 0) (.cons (.lit 0) (.cons (.lit 0) (.cons (.lit 0) (.cons (.lit 0) (.cons (.lit 0) (.cons (.lit 0) (.cons (.lit 0) (.cons (.lit 0) (.cons (.lit 0) (.cons (.lit 0) (.cons (.lit 0) (.cons (.lit 0) (.cons (.lit 0) (.cons (.lit 0) (.cons (.lit 0) (.cons (.lit 0) (.cons (.lit 0) (.cons (.lit 0) (.cons (.lit 0) (.cons (.lit 0) (.cons (.lit 0) (.cons (.lit 0) (.cons (.lit 0) (.cons (.lit 0) (.cons (.lit 0) (.cons (.lit 0) (.cons (.lit 0) (.cons (.lit 0) (.cons (.lit 0) (.cons (.lit 0) (.cons (.lit 0) (.cons (.lit 0) (.cons (.lit 0) (.cons (.lit 0) (.cons (.lit 0) (.cons (.lit 0) (.cons (.lit 0) (.cons (.lit 0) (.cons (.lit 0) (.cons (.lit 0) (.cons (.lit 0) (.cons (.lit 0) (.cons (.lit 0) (.cons (.lit 0) (.cons (.lit 2) .nil)))))))))))))))))))))))))))))))))))))))))))))))))))))))))))))))))))))))))))))))))))))))))))))))))))))))))))))))))))))))))))))))))))))))))))))))))))))))))))))))))))))))))))))))
def sP_tewid : Spec := ⟨fun k => match k with | 0 => sF_tmay | 1 => sF_tcwid | _ => fun _ => [], fun k => match k with | _ => fun _ => True⟩
set_option maxRecDepth 100000 in
theorem sR_tewid : treeIs tys_SdC [sM_tmay 0, sM_tcwid 1] [] [] [] 200 Try.f17 [.agg kSta, .agg kSta, .one (.fn 21)] [.agg kSta, .one (.int .i64)] true (v_Sta ( v_Sta ([]))) sT_tewid := ⟨by kernel_rfl, by kernel_rfl, by kernel_rfl⟩
set_option maxRecDepth 100000 in
set_option maxHeartbeats 8000000 in
theorem sX_tewid (a : Sta) (ha : Sta.ok a) (b : Sta) (hb : Sta.ok b)  (ρ : Env) (g : varsD ρ 0 (v_Sta ( v_Sta ([]))) = (d_Sta a ( d_Sta b ([])))) : sT_tewid.asks sP_tewid (fun ρ e => e.D ρ = sF_tewid (d_Sta a ( d_Sta b ([])))) ρ fun _ _ => False := by
  simp only [sF_tewid, rd_Sta_d, rd_Ty_d, rdZ, rdB]
  simp only [d_Sta, d_Ty, v_Sta, v_Ty, varsD, varD, List.cons.injEq, Dt.z.injEq, Dt.l.injEq, b2i_eq_iff, Nat.reduceAdd, and_true] at g
  simp (maxSteps := 10000000) only [sT_tewid, sP_tewid, d_Sta, d_Ty, kTy, rd_Sta, rd_Ty, sF_tmay, sF_tcwid, sV_tmay, sV_tcwid, sF_tewid, sV_tewid, Tr.asks, upd_same, okDs, okD, eqs, E.I, E.B, E.L, E.R, E.D, E.vs, dI, dB, dL, varD, varsD, List.getElem?_cons_zero, List.getElem?_cons_succ, List.cons_append, List.nil_append, Nat.zero_add, Nat.add_zero, Nat.reduceAdd, and_true, true_and, b2i_one, -eq_self, etasX, g]
  intro e; (try simp only [e, etasX, -eq_self]); clear e
  refine ⟨fun c0 => ?_, fun c0 => ?_⟩
  intro e; (try simp only [e, etasX, -eq_self]); clear e
  refine ⟨fun c1 => ?_, fun c1 => ?_⟩
  intro e; (try simp only [e, etasX, -eq_self]); clear e
  intro e; (try simp only [e, etasX, -eq_self]); clear e
  intro e; (try simp only [e, etasX, -eq_self]); clear e
  intro e; (try simp only [e, etasX, -eq_self]); clear e
  intro e; (try simp only [e, etasX, -eq_self]); clear e
  intro e; (try simp only [e, etasX, -eq_self]); clear e
  intro e; (try simp only [e, etasX, -eq_self]); clear e
  intro e; (try simp only [e, etasX, -eq_self]); clear e
  intro e; (try simp only [e, etasX, -eq_self]); clear e
  intro e; (try simp only [e, etasX, -eq_self]); clear e
  intro e; (try simp only [e, etasX, -eq_self]); clear e
  intro e; (try simp only [e, etasX, -eq_self]); clear e
  intro e; (try simp only [e, etasX, -eq_self]); clear e
  intro e; (try simp only [e, etasX, -eq_self]); clear e
  intro e; (try simp only [e, etasX, -eq_self]); clear e
  intro e; (try simp only [e, etasX, -eq_self]); clear e
  intro e; (try simp only [e, etasX, -eq_self]); clear e
  intro e; (try simp only [e, etasX, -eq_self]); clear e
  intro e; (try simp only [e, etasX, -eq_self]); clear e
  · rw [(sj_yes c0 c1).1, (sj_yes (w := true) c0 c1).2]; rfl
  · rw [(sj_no (.inr c1)).1, (sj_no (w := true) (.inr c1)).2]; rfl
  · rw [(sj_no (.inl c0)).1, (sj_no (w := true) (.inl c0)).2]; rfl
theorem sK_tewid {sp : Spec} {key : Nat} (hF : sp.F key = sF_tewid) (hP : sp.pre key = fun _ => True := by rfl) : SmOk Try.prog sp (sM_tewid key) :=
  fun_ok (s := sM_tewid key) hF hP (by kernel_rfl) tysok_SdC (smc (sK_tmay rfl) (smc (sK_tcwid rfl) sm0)) Try.func17 fn0 sR_tewid (.inl rfl) (for_Sta fun q0 gq0 => for_Sta fun q1 gq1 => fun  hp ρ g => sX_tewid q0 gq0 q1 gq1 ρ g)
def sM_tswid (key : Nat) : Sm := ⟨8, key, [.agg kSta, .agg kSta], [.agg kSta, .one (.int .i64)], true⟩
def sV_tswid (a : Sta) (b : Sta) : List Dt := d_Sta (sjoin true a b) ( .z (serr a b) :: ([]))
def sF_tswid : List Dt → List Dt := rd_Sta fun a => rd_Sta fun b => fun _ => sV_tswid a b
def sT_tswid : Tr :=
(.call 0 (kSta ++ [.int .i64]) (.vs 0 342 .nil) 342
(.leaf (.vs 342 172 .nil)))
def sP_tswid : Spec := ⟨fun k => match k with | 0 => sF_tewid | _ => fun _ => [], fun k => match k with | _ => fun _ => True⟩
set_option maxRecDepth 100000 in
theorem sR_tswid : treeIs tys_SdC [sM_tewid 0] [] [] [] 200 Try.f8 [.agg kSta, .agg kSta] [.agg kSta, .one (.int .i64)] true (v_Sta ( v_Sta ([]))) sT_tswid := ⟨by kernel_rfl, by kernel_rfl, by kernel_rfl⟩
set_option maxRecDepth 100000 in
set_option maxHeartbeats 8000000 in
theorem sX_tswid (a : Sta) (ha : Sta.ok a) (b : Sta) (hb : Sta.ok b) (ρ : Env) (g : varsD ρ 0 (v_Sta ( v_Sta ([]))) = (d_Sta a ( d_Sta b ([])))) : sT_tswid.asks sP_tswid (fun ρ e => e.D ρ = sF_tswid (d_Sta a ( d_Sta b ([])))) ρ fun _ _ => False := by
  simp only [sF_tswid, rd_Sta_d, rd_Ty_d, rdZ, rdB]
  simp only [d_Sta, d_Ty, v_Sta, v_Ty, varsD, varD, List.cons.injEq, Dt.z.injEq, Dt.l.injEq, b2i_eq_iff, Nat.reduceAdd, and_true] at g
  simp (maxSteps := 10000000) only [sT_tswid, sP_tswid, d_Sta, d_Ty, kSta, rd_Sta, rd_Ty, sF_tewid, sV_tewid, sF_tswid, sV_tswid, Tr.asks, upd_same, okDs, okD, eqs, E.I, E.B, E.L, E.R, E.D, E.vs, dI, dB, dL, varD, varsD, List.getElem?_cons_zero, List.getElem?_cons_succ, List.cons_append, List.nil_append, Nat.zero_add, Nat.add_zero, Nat.reduceAdd, and_true, true_and, b2i_one, -eq_self, etasX, g]
  intro e; (try simp only [e, etasX, -eq_self]); clear e
  · rfl
theorem sK_tswid {sp : Spec} {key : Nat} (hF : sp.F key = sF_tswid) (hP : sp.pre key = fun _ => True := by rfl) : SmOk Try.prog sp (sM_tswid key) :=
  fun_ok (s := sM_tswid key) hF hP (by kernel_rfl) tysok_SdC (smc (sK_tewid rfl) sm0) Try.func8 fn0 sR_tswid (.inl rfl) (for_Sta fun q0 gq0 => for_Sta fun q1 gq1 => fun  hp ρ g => sX_tswid q0 gq0 q1 gq1 ρ g)
end Go.Proofs.Ytgfghplnankgnaa

