/- Contracts of loads and stores of package state, by the symbolic run. -/
import Derived.Test.YtgfghplnankgnaaSdD
import Derived.Test.YtgfghplnankgnaaVrB
import Derived.Test.YtgfghplnankgnaaProg
import Derived.Laws.Externs
set_option linter.unusedVariables false
set_option linter.unusedSimpArgs false
namespace Go.Proofs.Ytgfghplnankgnaa
open Go.RowKit Go.ChangeShapes Go.WideShapes

def tys_SdE : List (Nat × TI) := [(2, ⟨false, 1, [.int .i64 (.lit 0)], [], none, some .i64, false, false, none, 8, false, none, false⟩),
 (3, ⟨false, 1, [.int .i64 (.lit 0)], [], none, some .i64, false, false, none, 8, false, none, false⟩),
 (22, ⟨false, 1, [.int .i8 (.lit 0)], [], none, some .i8, false, false, none, 1, false, none, false⟩),
 (23, ⟨false, 1, [.int .u64 (.lit 0)], [], none, some .u64, false, false, none, 8, false, none, false⟩),
 (25, ⟨true, 4, [.int .u64 (.lit 0), .int .u64 (.lit 0), .int .i64 (.lit 0), .int .i64 (.lit 0)], [(0, 23), (1, 23), (2, 2), (3, 2)], none, none, false, false, none, 32, false, none, false⟩),
 (27, ⟨true, 2, [.int .u64 (.lit 0), .int .u64 (.lit 0)], [(0, 23), (1, 23)], none, none, false, false, none, 16, false, none, false⟩),
 (29, ⟨true, 6, [.int .u64 (.lit 0), .int .u64 (.lit 0), .int .i64 (.lit 0), .int .i64 (.lit 0), .int .u64 (.lit 0), .int .u64 (.lit 0)], [(0, 25), (4, 27)], none, none, false, false, none, 48, false, none, false⟩),
 (31, ⟨true, 9, [.int .i8 (.lit 0), .int .u64 (.lit 0), .int .u64 (.lit 0), .int .i64 (.lit 0), .int .i64 (.lit 0), .int .u64 (.lit 0), .int .u64 (.lit 0), .int .i64 (.lit 0), .int .i64 (.lit 0)], [(0, 22), (1, 29), (7, 3), (8, 3)], none, none, false, false, none, 72, false, none, false⟩),
 (32, ⟨true, 99, [.int .i8 (.lit 0), .int .u64 (.lit 0), .int .u64 (.lit 0), .int .i64 (.lit 0), .int .i64 (.lit 0), .int .u64 (.lit 0), .int .u64 (.lit 0), .int .i64 (.lit 0), .int .i64 (.lit 0), .int .i8 (.lit 0), .int .u64 (.lit 0), .int .u64 (.lit 0), .int .i64 (.lit 0), .int .i64 (.lit 0), .int .u64 (.lit 0), .int .u64 (.lit 0), .int .i64 (.lit 0), .int .i64 (.lit 0), .int .i8 (.lit 0), .int .u64 (.lit 0), .int .u64 (.lit 0), .int .i64 (.lit 0), .int .i64 (.lit 0), .int .u64 (.lit 0), .int .u64 (.lit 0), .int .i64 (.lit 0), .int .i64 (.lit 0), .int .i8 (.lit 0), .int .u64 (.lit 0), .int .u64 (.lit 0), .int .i64 (.lit 0), .int .i64 (.lit 0), .int .u64 (.lit 0), .int .u64 (.lit 0), .int .i64 (.lit 0), .int .i64 (.lit 0), .int .i8 (.lit 0), .int .u64 (.lit 0), .int .u64 (.lit 0), .int .i64 (.lit 0), .int .i64 (.lit 0), .int .u64 (.lit 0), .int .u64 (.lit 0), .int .i64 (.lit 0), .int .i64 (.lit 0), .int .i8 (.lit 0), .int .u64 (.lit 0), .int .u64 (.lit 0), .int .i64 (.lit 0), .int .i64 (.lit 0), .int .u64 (.lit 0), .int .u64 (.lit 0), .int .i64 (.lit 0), .int .i64 (.lit 0), .int .i8 (.lit 0), .int .u64 (.lit 0), .int .u64 (.lit 0), .int .i64 (.lit 0), .int .i64 (.lit 0), .int .u64 (.lit 0), .int .u64 (.lit 0), .int .i64 (.lit 0), .int .i64 (.lit 0), .int .i8 (.lit 0), .int .u64 (.lit 0), .int .u64 (.lit 0), .int .i64 (.lit 0), .int .i64 (.lit 0), .int .u64 (.lit 0), .int .u64 (.lit 0), .int .i64 (.lit 0), .int .i64 (.lit 0), .int .i8 (.lit 0), .int .u64 (.lit 0), .int .u64 (.lit 0), .int .i64 (.lit 0), .int .i64 (.lit 0), .int .u64 (.lit 0), .int .u64 (.lit 0), .int .i64 (.lit 0), .int .i64 (.lit 0), .int .i8 (.lit 0), .int .u64 (.lit 0), .int .u64 (.lit 0), .int .i64 (.lit 0), .int .i64 (.lit 0), .int .u64 (.lit 0), .int .u64 (.lit 0), .int .i64 (.lit 0), .int .i64 (.lit 0), .int .i8 (.lit 0), .int .u64 (.lit 0), .int .u64 (.lit 0), .int .i64 (.lit 0), .int .i64 (.lit 0), .int .u64 (.lit 0), .int .u64 (.lit 0), .int .i64 (.lit 0), .int .i64 (.lit 0)], [], some (11, 31), none, false, false, none, 792, false, none, false⟩),
 (33, ⟨true, 72, [.int .i8 (.lit 0), .int .u64 (.lit 0), .int .u64 (.lit 0), .int .i64 (.lit 0), .int .i64 (.lit 0), .int .u64 (.lit 0), .int .u64 (.lit 0), .int .i64 (.lit 0), .int .i64 (.lit 0), .int .i8 (.lit 0), .int .u64 (.lit 0), .int .u64 (.lit 0), .int .i64 (.lit 0), .int .i64 (.lit 0), .int .u64 (.lit 0), .int .u64 (.lit 0), .int .i64 (.lit 0), .int .i64 (.lit 0), .int .i8 (.lit 0), .int .u64 (.lit 0), .int .u64 (.lit 0), .int .i64 (.lit 0), .int .i64 (.lit 0), .int .u64 (.lit 0), .int .u64 (.lit 0), .int .i64 (.lit 0), .int .i64 (.lit 0), .int .i8 (.lit 0), .int .u64 (.lit 0), .int .u64 (.lit 0), .int .i64 (.lit 0), .int .i64 (.lit 0), .int .u64 (.lit 0), .int .u64 (.lit 0), .int .i64 (.lit 0), .int .i64 (.lit 0), .int .i8 (.lit 0), .int .u64 (.lit 0), .int .u64 (.lit 0), .int .i64 (.lit 0), .int .i64 (.lit 0), .int .u64 (.lit 0), .int .u64 (.lit 0), .int .i64 (.lit 0), .int .i64 (.lit 0), .int .i8 (.lit 0), .int .u64 (.lit 0), .int .u64 (.lit 0), .int .i64 (.lit 0), .int .i64 (.lit 0), .int .u64 (.lit 0), .int .u64 (.lit 0), .int .i64 (.lit 0), .int .i64 (.lit 0), .int .i8 (.lit 0), .int .u64 (.lit 0), .int .u64 (.lit 0), .int .i64 (.lit 0), .int .i64 (.lit 0), .int .u64 (.lit 0), .int .u64 (.lit 0), .int .i64 (.lit 0), .int .i64 (.lit 0), .int .i8 (.lit 0), .int .u64 (.lit 0), .int .u64 (.lit 0), .int .i64 (.lit 0), .int .i64 (.lit 0), .int .u64 (.lit 0), .int .u64 (.lit 0), .int .i64 (.lit 0), .int .i64 (.lit 0)], [], some (8, 31), none, false, false, none, 576, false, none, false⟩),
 (35, ⟨true, 171, [.int .i8 (.lit 0), .int .u64 (.lit 0), .int .u64 (.lit 0), .int .i64 (.lit 0), .int .i64 (.lit 0), .int .u64 (.lit 0), .int .u64 (.lit 0), .int .i64 (.lit 0), .int .i64 (.lit 0), .int .i8 (.lit 0), .int .u64 (.lit 0), .int .u64 (.lit 0), .int .i64 (.lit 0), .int .i64 (.lit 0), .int .u64 (.lit 0), .int .u64 (.lit 0), .int .i64 (.lit 0), .int .i64 (.lit 0), .int .i8 (.lit 0), .int .u64 (.lit 0), .int .u64 (.lit 0), .int .i64 (.lit 0), .int .i64 (.lit 0), .int .u64 (.lit 0), .int .u64 (.lit 0), .int .i64 (.lit 0), .int .i64 (.lit 0), .int .i8 (.lit 0), .int .u64 (.lit 0), .int .u64 (.lit 0), .int .i64 (.lit 0), .int .i64 (.lit 0), .int .u64 (.lit 0), .int .u64 (.lit 0), .int .i64 (.lit 0), .int .i64 (.lit 0), .int .i8 (.lit 0), .int .u64 (.lit 0), .int .u64 (.lit 0), .int .i64 (.lit 0), .int .i64 (.lit 0), .int .u64 (.lit 0), .int .u64 (.lit 0), .int .i64 (.lit 0), .int .i64 (.lit 0), .int .i8 (.lit 0), .int .u64 (.lit 0), .int .u64 (.lit 0), .int .i64 (.lit 0), .int .i64 (.lit 0), .int .u64 (.lit 0), .int .u64 (.lit 0), .int .i64 (.lit 0), .int .i64 (.lit 0), .int .i8 (.lit 0), .int .u64 (.lit 0), .int .u64 (.lit 0), .int .i64 (.lit 0), .int .i64 (.lit 0), .int .u64 (.lit 0), .int .u64 (.lit 0), .int .i64 (.lit 0), .int .i64 (.lit 0), .int .i8 (.lit 0), .int .u64 (.lit 0), .int .u64 (.lit 0), .int .i64 (.lit 0), .int .i64 (.lit 0), .int .u64 (.lit 0), .int .u64 (.lit 0), .int .i64 (.lit 0), .int .i64 (.lit 0), .int .i8 (.lit 0), .int .u64 (.lit 0), .int .u64 (.lit 0), .int .i64 (.lit 0), .int .i64 (.lit 0), .int .u64 (.lit 0), .int .u64 (.lit 0), .int .i64 (.lit 0), .int .i64 (.lit 0), .int .i8 (.lit 0), .int .u64 (.lit 0), .int .u64 (.lit 0), .int .i64 (.lit 0), .int .i64 (.lit 0), .int .u64 (.lit 0), .int .u64 (.lit 0), .int .i64 (.lit 0), .int .i64 (.lit 0), .int .i8 (.lit 0), .int .u64 (.lit 0), .int .u64 (.lit 0), .int .i64 (.lit 0), .int .i64 (.lit 0), .int .u64 (.lit 0), .int .u64 (.lit 0), .int .i64 (.lit 0), .int .i64 (.lit 0), .int .i8 (.lit 0), .int .u64 (.lit 0), .int .u64 (.lit 0), .int .i64 (.lit 0), .int .i64 (.lit 0), .int .u64 (.lit 0), .int .u64 (.lit 0), .int .i64 (.lit 0), .int .i64 (.lit 0), .int .i8 (.lit 0), .int .u64 (.lit 0), .int .u64 (.lit 0), .int .i64 (.lit 0), .int .i64 (.lit 0), .int .u64 (.lit 0), .int .u64 (.lit 0), .int .i64 (.lit 0), .int .i64 (.lit 0), .int .i8 (.lit 0), .int .u64 (.lit 0), .int .u64 (.lit 0), .int .i64 (.lit 0), .int .i64 (.lit 0), .int .u64 (.lit 0), .int .u64 (.lit 0), .int .i64 (.lit 0), .int .i64 (.lit 0), .int .i8 (.lit 0), .int .u64 (.lit 0), .int .u64 (.lit 0), .int .i64 (.lit 0), .int .i64 (.lit 0), .int .u64 (.lit 0), .int .u64 (.lit 0), .int .i64 (.lit 0), .int .i64 (.lit 0), .int .i8 (.lit 0), .int .u64 (.lit 0), .int .u64 (.lit 0), .int .i64 (.lit 0), .int .i64 (.lit 0), .int .u64 (.lit 0), .int .u64 (.lit 0), .int .i64 (.lit 0), .int .i64 (.lit 0), .int .i8 (.lit 0), .int .u64 (.lit 0), .int .u64 (.lit 0), .int .i64 (.lit 0), .int .i64 (.lit 0), .int .u64 (.lit 0), .int .u64 (.lit 0), .int .i64 (.lit 0), .int .i64 (.lit 0), .int .i8 (.lit 0), .int .u64 (.lit 0), .int .u64 (.lit 0), .int .i64 (.lit 0), .int .i64 (.lit 0), .int .u64 (.lit 0), .int .u64 (.lit 0), .int .i64 (.lit 0), .int .i64 (.lit 0), .int .i8 (.lit 0), .int .u64 (.lit 0), .int .u64 (.lit 0), .int .i64 (.lit 0), .int .i64 (.lit 0), .int .u64 (.lit 0), .int .u64 (.lit 0), .int .i64 (.lit 0), .int .i64 (.lit 0)], [(0, 32), (99, 33)], none, none, false, false, none, 1368, false, none, false⟩)]
set_option maxRecDepth 100000 in
theorem tysck_SdE : (tys_SdE.all fun p => ckTI Try.prog p.1 p.2) = true := by kernel_rfl
theorem tyseq_SdE : (tys_SdE.all fun p => !p.2.eqok) = true := by kernel_rfl
theorem tyskn_SdE : (tys_SdE.all fun p => !p.2.keyok) = true := by kernel_rfl
theorem tysok_SdE : ∀ t i, (t, i) ∈ tys_SdE → TIok Try.prog t i := by
  intro t i h
  refine TIok_of (all_at (f := ckTI Try.prog) tysck_SdE h) (fun he => ?_) (fun he => ?_) (fun he => ?_)
  · have h1 := List.all_eq_true.1 tyseq_SdE (t, i) h
    simp [he] at h1
  · have h1 := List.all_eq_true.1 tyseq_SdE (t, i) h
    simp [he] at h1
  · have h1 := List.all_eq_true.1 tyskn_SdE (t, i) h
    simp [he] at h1
def sM_tacc (key : Nat) : Sm := ⟨25, key, [.agg kSta, .one (.int .i64), .one (.int .i64), .one (.int .i64)], [.one .bool], false⟩
def sV_tacc (s : Sta) (lo : Int) (hi : Int) (size : Int) : List Dt := [.z (b2i (smac s lo hi size))]
def sF_tacc : List Dt → List Dt := rd_Sta fun s => rdZ fun lo => rdZ fun hi => rdZ fun size => fun _ => sV_tacc s lo hi size
def sT_tacc : Tr :=
(.br (.eq (.var 173) (.lit 1))
(.br (.lt (.var 171) (.lit 0))
(.leaf (.consb (.tt false) .nil))
(.br (.lt (.var 172) (.var 171))
(.leaf (.consb (.tt false) .nil))
(.br (.lt (.bin .sub .i64 (.lit 64) (.var 173)) (.var 172))
(.leaf (.consb (.tt false) .nil))
(.call 0 ([.bool]) (.vs 0 171 .nil) 174
(.leaf (.consb (.bvar 174) .nil))))))
(.br (.eq (.var 173) (.lit 2))
(.br (.lt (.var 171) (.lit 0))
(.leaf (.consb (.tt false) .nil))
(.br (.lt (.var 172) (.var 171))
(.leaf (.consb (.tt false) .nil))
(.br (.lt (.bin .sub .i64 (.lit 64) (.var 173)) (.var 172))
(.leaf (.consb (.tt false) .nil))
(.call 0 ([.bool]) (.vs 0 171 .nil) 174
(.leaf (.consb (.bvar 174) .nil))))))
(.br (.eq (.var 173) (.lit 4))
(.br (.lt (.var 171) (.lit 0))
(.leaf (.consb (.tt false) .nil))
(.br (.lt (.var 172) (.var 171))
(.leaf (.consb (.tt false) .nil))
(.br (.lt (.bin .sub .i64 (.lit 64) (.var 173)) (.var 172))
(.leaf (.consb (.tt false) .nil))
(.call 0 ([.bool]) (.vs 0 171 .nil) 174
(.leaf (.consb (.bvar 174) .nil))))))
(.br (.eq (.var 173) (.lit 8))
(.br (.lt (.var 171) (.lit 0))
(.leaf (.consb (.tt false) .nil))
(.br (.lt (.var 172) (.var 171))
(.leaf (.consb (.tt false) .nil))
(.br (.lt (.bin .sub .i64 (.lit 64) (.var 173)) (.var 172))
(.leaf (.consb (.tt false) .nil))
(.call 0 ([.bool]) (.vs 0 171 .nil) 174
(.leaf (.consb (.bvar 174) .nil))))))
(.leaf (.consb (.tt false) .nil))))))
def sP_tacc : Spec := ⟨fun k => match k with | 0 => sF_tmay | _ => fun _ => [], fun k => match k with | _ => fun _ => True⟩
set_option maxRecDepth 100000 in
theorem sR_tacc : treeIs tys_SdE [sM_tmay 0] [] [] [] 200 Try.f25 [.agg kSta, .one (.int .i64), .one (.int .i64), .one (.int .i64)] [.one .bool] false (v_Sta ( .int .i64 :: ( .int .i64 :: ( .int .i64 :: ([]))))) sT_tacc := ⟨by kernel_rfl, by kernel_rfl, by kernel_rfl⟩
set_option maxRecDepth 100000 in
set_option maxHeartbeats 8000000 in
theorem sX_tacc (s : Sta) (hs : Sta.ok s) (lo : Int) (hlo : inK .i64 lo = true) (hi : Int) (hhi : inK .i64 hi = true) (size : Int) (hsize : inK .i64 size = true) (ρ : Env) (g : varsD ρ 0 (v_Sta ( .int .i64 :: ( .int .i64 :: ( .int .i64 :: ([]))))) = (d_Sta s ( .z lo :: ( .z hi :: ( .z size :: ([])))))) : sT_tacc.asks sP_tacc (fun ρ e => e.D ρ = sF_tacc (d_Sta s ( .z lo :: ( .z hi :: ( .z size :: ([])))))) ρ fun _ _ => False := by
  simp only [sF_tacc, rd_Sta_d, rd_Ty_d, rdZ, rdB]
  simp only [d_Sta, d_Ty, v_Sta, v_Ty, varsD, varD, List.cons.injEq, Dt.z.injEq, Dt.l.injEq, b2i_eq_iff, Nat.reduceAdd, and_true] at g
  simp (maxSteps := 10000000) only [sT_tacc, sP_tacc, d_Sta, d_Ty, rd_Sta, rd_Ty, rdZ, sF_tmay, sV_tmay, sF_tacc, sV_tacc, Tr.asks, upd_same, okDs, okD, eqs, E.I, E.B, E.L, E.R, E.D, E.vs, dI, dB, dL, varD, varsD, List.getElem?_cons_zero, List.getElem?_cons_succ, List.cons_append, List.nil_append, Nat.zero_add, Nat.add_zero, Nat.reduceAdd, and_true, true_and, b2i_one, -eq_self, etasX, g]
  refine ⟨fun c0 => ?_, fun c0 => ?_⟩
  refine ⟨fun c1 => ?_, fun c1 => ?_⟩
  · rw [smac_lo c1]
  refine ⟨fun c2 => ?_, fun c2 => ?_⟩
  · rw [smac_hi c2]
  refine ⟨fun c3 => ?_, fun c3 => ?_⟩
  · rw [smac_far c3]
  intro e; (try simp only [e, etasX, -eq_self]); clear e
  · rw [smac_is (.inl c0) c1 c2, c3, Bool.not_false, Bool.true_and]
  refine ⟨fun c4 => ?_, fun c4 => ?_⟩
  refine ⟨fun c5 => ?_, fun c5 => ?_⟩
  · rw [smac_lo c5]
  refine ⟨fun c6 => ?_, fun c6 => ?_⟩
  · rw [smac_hi c6]
  refine ⟨fun c7 => ?_, fun c7 => ?_⟩
  · rw [smac_far c7]
  intro e; (try simp only [e, etasX, -eq_self]); clear e
  · rw [smac_is (.inr (.inl c4)) c5 c6, c7, Bool.not_false, Bool.true_and]
  refine ⟨fun c8 => ?_, fun c8 => ?_⟩
  refine ⟨fun c9 => ?_, fun c9 => ?_⟩
  · rw [smac_lo c9]
  refine ⟨fun c10 => ?_, fun c10 => ?_⟩
  · rw [smac_hi c10]
  refine ⟨fun c11 => ?_, fun c11 => ?_⟩
  · rw [smac_far c11]
  intro e; (try simp only [e, etasX, -eq_self]); clear e
  · rw [smac_is (.inr (.inr (.inl c8))) c9 c10, c11, Bool.not_false, Bool.true_and]
  refine ⟨fun c12 => ?_, fun c12 => ?_⟩
  refine ⟨fun c13 => ?_, fun c13 => ?_⟩
  · rw [smac_lo c13]
  refine ⟨fun c14 => ?_, fun c14 => ?_⟩
  · rw [smac_hi c14]
  refine ⟨fun c15 => ?_, fun c15 => ?_⟩
  · rw [smac_far c15]
  intro e; (try simp only [e, etasX, -eq_self]); clear e
  · rw [smac_is (.inr (.inr (.inr c12))) c13 c14, c15, Bool.not_false, Bool.true_and]
  · rw [smac_size c0 c4 c8 c12]
theorem sK_tacc {sp : Spec} {key : Nat} (hF : sp.F key = sF_tacc) (hP : sp.pre key = fun _ => True := by rfl) : SmOk Try.prog sp (sM_tacc key) :=
  fun_ok (s := sM_tacc key) hF hP (by kernel_rfl) tysok_SdE (smc (sK_tmay rfl) sm0) Try.func25 fn0 sR_tacc (.inl rfl) (for_Sta fun q0 gq0 => fun x171 gx171 x172 gx172 x173 gx173 hp ρ g => sX_tacc q0 gq0 x171 gx171 x172 gx172 x173 gx173 ρ g)
def sM_texa (key : Nat) : Sm := ⟨26, key, [.one (.int .i64), .one (.int .i64), .one (.int .i64)], [.one (.int .i64), .one .bool], true⟩
def sV_texa (lo : Int) (hi : Int) (size : Int) : List Dt := [.z (opI .quo .i64 lo 8), .z (b2i (sone lo hi size))]
def sF_texa : List Dt → List Dt
  | [.z x0, .z x1, .z x2] => sV_texa x0 x1 x2
  | _ => []
def sT_texa : Tr :=
(.br (.eq (.var 2) (.lit 8))
(.br (.eq (.var 0) (.var 1))
(.leaf (.cons (.bin .quo .i64 (.var 0) (.lit 8)) (.consb (.eq (.bin .rem .i64 (.var 0) (.lit 8)) (.lit 0)) .nil)))
(.leaf (.cons (.bin .quo .i64 (.var 0) (.lit 8)) (.consb (.tt false) .nil))))
(.leaf (.cons (.bin .quo .i64 (.var 0) (.lit 8)) (.consb (.tt false) .nil))))
def sP_texa : Spec := ⟨fun k => match k with | _ => fun _ => [], fun k => match k with | _ => fun _ => True⟩
set_option maxRecDepth 100000 in
theorem sR_texa : treeIs tys_SdE [] [] [] [] 200 Try.f26 [.one (.int .i64), .one (.int .i64), .one (.int .i64)] [.one (.int .i64), .one .bool] true [.int .i64, .int .i64, .int .i64] sT_texa := ⟨by kernel_rfl, by kernel_rfl, by kernel_rfl⟩
set_option maxRecDepth 100000 in
set_option maxHeartbeats 8000000 in
theorem sX_texa (lo : Int) (hlo : inK .i64 lo = true) (hi : Int) (hhi : inK .i64 hi = true) (size : Int) (hsize : inK .i64 size = true) (ρ : Env) (g : varsD ρ 0 [.int .i64, .int .i64, .int .i64] = [.z lo, .z hi, .z size]) : sT_texa.asks sP_texa (fun ρ e => e.D ρ = sF_texa [.z lo, .z hi, .z size]) ρ fun _ _ => False := by
  simp only [varsD, varD, List.cons.injEq, Dt.z.injEq, Dt.l.injEq, b2i_eq_iff, Nat.reduceAdd, and_true] at g
  simp only [sT_texa, sP_texa, sF_texa, sV_texa, Tr.asks, upd_same, okDs, okD, eqs, E.I, E.B, E.L, E.R, E.D, E.vs, dI, dB, dL, varD, varsD, List.getElem?_cons_zero, List.getElem?_cons_succ, List.cons_append, List.nil_append, Nat.zero_add, Nat.add_zero, Nat.reduceAdd, and_true, true_and, b2i_one, -eq_self, etasX, g]
  refine ⟨fun c0 => ?_, fun c0 => ?_⟩
  refine ⟨fun c1 => ?_, fun c1 => ?_⟩
  · unfold sone; rw [c0, c1]; rfl
  · rw [sone_n2 c1]
  · rw [sone_n1 c0]
theorem sK_texa {sp : Spec} {key : Nat} (hF : sp.F key = sF_texa) (hP : sp.pre key = fun _ => True := by rfl) : SmOk Try.prog sp (sM_texa key) :=
  fun_ok (s := sM_texa key) hF hP (by kernel_rfl) tysok_SdE (sm0) Try.func26 fn0 sR_texa (.inl rfl) (fun x0 gx0 x1 gx1 x2 gx2 hp ρ g => sX_texa x0 gx0 x1 gx1 x2 gx2 ρ g)
def sM_tload (key : Nat) : Sm := ⟨10, key, [.agg kSta, .one (.int .i64), .one (.int .i64), .one (.int .i64)], [.agg kTy, .one (.int .i64)], true⟩
def sV_tload (s : Sta) (lo : Int) (hi : Int) (size : Int) : List Dt := d_Ty (sload s lo hi size) ( .z (slerr s lo hi size) :: ([]))
def sF_tload : List Dt → List Dt := rd_Sta fun s => rdZ fun lo => rdZ fun hi => rdZ fun size => fun _ => sV_tload s lo hi size
def sT_tload : Tr :=
(.call 0 ([.bool]) (.vs 0 174 .nil) 174
(.br (.bvar 174)
(.call 1 ([.int .i64] ++ [.bool]) (.vs 171 3 .nil) 175
(.br (.bvar 176)
(.br (.eq (.var 175) (.lit 0))
(.leaf (.vs 99 9 (.cons (.lit 0) .nil)))
(.br (.eq (.var 175) (.lit 1))
(.leaf (.vs 108 9 (.cons (.lit 0) .nil)))
(.br (.eq (.var 175) (.lit 2))
(.leaf (.vs 117 9 (.cons (.lit 0) .nil)))
(.br (.eq (.var 175) (.lit 3))
(.leaf (.vs 126 9 (.cons (.lit 0) .nil)))
(.br (.eq (.var 175) (.lit 4))
(.leaf (.vs 135 9 (.cons (.lit 0) .nil)))
(.br (.eq (.var 175) (.lit 5))
(.leaf (.vs 144 9 (.cons (.lit 0) .nil)))
(.br (.eq (.var 175) (.lit 6))
(.leaf (.vs 153 9 (.cons (.lit 0) .nil)))
(.br (.eq (.var 175) (.lit 7))
(.leaf (.vs 162 9 (.cons (.lit 0) .nil)))
.panic))))))))
(.call 2 (kSc) (.cons (.var 173) .nil) 177
(.leaf (.cons (.lit 1) (.vs 177 6 (.cons (.lit 0) (.cons (.lit 0) (.cons (.lit 0) .nil)))))))))
(.leaf (.cons (.lit 0) (.cons (.lit 0) (.cons (.lit 0) (.cons (.lit 0) (.cons (.lit 0) (.cons (.lit 0) (.cons (.lit 0) (.cons (.lit 0) (.cons (.lit 0) (.cons (.lit 2) .nil)))))))))))))
def sP_tload : Spec := ⟨fun k => match k with | 0 => sF_tacc | 1 => sF_texa | 2 => sF_vby | _ => fun _ => [], fun k => match k with | _ => fun _ => True⟩
set_option maxRecDepth 100000 in
theorem sR_tload : treeIs tys_SdE [sM_tacc 0, sM_texa 1, sM_vby 2] [] [] [] 200 Try.f10 [.agg kSta, .one (.int .i64), .one (.int .i64), .one (.int .i64)] [.agg kTy, .one (.int .i64)] true (v_Sta ( .int .i64 :: ( .int .i64 :: ( .int .i64 :: ([]))))) sT_tload := ⟨by kernel_rfl, by kernel_rfl, by kernel_rfl⟩
set_option maxRecDepth 100000 in
set_option maxHeartbeats 8000000 in
theorem sX_tload (s : Sta) (hs : Sta.ok s) (lo : Int) (hlo : inK .i64 lo = true) (hi : Int) (hhi : inK .i64 hi = true) (size : Int) (hsize : inK .i64 size = true) (ρ : Env) (g : varsD ρ 0 (v_Sta ( .int .i64 :: ( .int .i64 :: ( .int .i64 :: ([]))))) = (d_Sta s ( .z lo :: ( .z hi :: ( .z size :: ([])))))) : sT_tload.asks sP_tload (fun ρ e => e.D ρ = sF_tload (d_Sta s ( .z lo :: ( .z hi :: ( .z size :: ([])))))) ρ fun _ _ => False := by
  simp only [sF_tload, rd_Sta_d, rd_Ty_d, rdZ, rdB]
  simp only [d_Sta, d_Ty, v_Sta, v_Ty, varsD, varD, List.cons.injEq, Dt.z.injEq, Dt.l.injEq, b2i_eq_iff, Nat.reduceAdd, and_true] at g
  simp (maxSteps := 10000000) only [sT_tload, sP_tload, d_Sta, d_Ty, kSc, rd_Sta, rd_Ty, rdZ, sF_tacc, sF_texa, sF_vby, sV_tacc, sV_texa, sV_vby, sF_tload, sV_tload, Tr.asks, upd_same, okDs, okD, eqs, E.I, E.B, E.L, E.R, E.D, E.vs, dI, dB, dL, varD, varsD, List.getElem?_cons_zero, List.getElem?_cons_succ, List.cons_append, List.nil_append, Nat.zero_add, Nat.add_zero, Nat.reduceAdd, and_true, true_and, b2i_one, -eq_self, etasX, g]
  intro e; (try simp only [e, etasX, -eq_self]); clear e
  refine ⟨fun c0 => ?_, fun c0 => ?_⟩
  intro e; (try simp only [e, etasX, -eq_self]); clear e
  refine ⟨fun c1 => ?_, fun c1 => ?_⟩
  refine ⟨fun c2 => ?_, fun c2 => ?_⟩
  · rw [(sload_one c0 c1).1, (sload_one c0 c1).2, eqz c2]; rfl
  refine ⟨fun c3 => ?_, fun c3 => ?_⟩
  · rw [(sload_one c0 c1).1, (sload_one c0 c1).2, eqz c3]; rfl
  refine ⟨fun c4 => ?_, fun c4 => ?_⟩
  · rw [(sload_one c0 c1).1, (sload_one c0 c1).2, eqz c4]; rfl
  refine ⟨fun c5 => ?_, fun c5 => ?_⟩
  · rw [(sload_one c0 c1).1, (sload_one c0 c1).2, eqz c5]; rfl
  refine ⟨fun c6 => ?_, fun c6 => ?_⟩
  · rw [(sload_one c0 c1).1, (sload_one c0 c1).2, eqz c6]; rfl
  refine ⟨fun c7 => ?_, fun c7 => ?_⟩
  · rw [(sload_one c0 c1).1, (sload_one c0 c1).2, eqz c7]; rfl
  refine ⟨fun c8 => ?_, fun c8 => ?_⟩
  · rw [(sload_one c0 c1).1, (sload_one c0 c1).2, eqz c8]; rfl
  refine ⟨fun c9 => ?_, fun c9 => ?_⟩
  · rw [(sload_one c0 c1).1, (sload_one c0 c1).2, eqz c9]; rfl
  · exact pick_no c0 rfl c2 c3 c4 c5 c6 c7 c8 c9
  intro e; (try simp only [e, etasX, -eq_self]); clear e
  · rw [(sload_some c0 c1).1, (sload_some c0 c1).2]; rfl
  · rw [(sload_no c0).1, (sload_no c0).2]; rfl
theorem sK_tload {sp : Spec} {key : Nat} (hF : sp.F key = sF_tload) (hP : sp.pre key = fun _ => True := by rfl) : SmOk Try.prog sp (sM_tload key) :=
  fun_ok (s := sM_tload key) hF hP (by kernel_rfl) tysok_SdE (smc (sK_tacc rfl) (smc (sK_texa rfl) (smc (sK_vby rfl) sm0))) Try.func10 fn0 sR_tload (.inl rfl) (for_Sta fun q0 gq0 => fun x171 gx171 x172 gx172 x173 gx173 hp ρ g => sX_tload q0 gq0 x171 gx171 x172 gx172 x173 gx173 ρ g)
end Go.Proofs.Ytgfghplnankgnaa

