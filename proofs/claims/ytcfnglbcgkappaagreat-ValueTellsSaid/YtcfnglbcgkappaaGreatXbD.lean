/- Contract of Do of package bounds, by the symbolic run. -/
import Derived.Test.YtcfnglbcgkappaaGreatXbC
import Derived.Test.YtcfnglbcgkappaaGreatProg
import Derived.Laws.Externs
set_option linter.unusedVariables false
set_option linter.unusedSimpArgs false
namespace Go.Proofs.YtcfnglbcgkappaaGreat
open Go.RowKit Go.ChangeShapes Go.WideShapes

def tys_XbD : List (Nat × TI) := [(2, ⟨false, 1, [.int .i64 (.lit 0)], [], none, some .i64, false, false, none, 8, false⟩),
 (3, ⟨false, 1, [.int .i64 (.lit 0)], [], none, some .i64, false, false, none, 8, false⟩),
 (22, ⟨false, 1, [.int .i8 (.lit 0)], [], none, some .i8, false, false, none, 1, false⟩),
 (23, ⟨false, 1, [.int .u64 (.lit 0)], [], none, some .u64, false, false, none, 8, false⟩),
 (25, ⟨true, 4, [.int .u64 (.lit 0), .int .u64 (.lit 0), .int .i64 (.lit 0), .int .i64 (.lit 0)], [(0, 23), (1, 23), (2, 2), (3, 2)], none, none, false, false, none, 32, false⟩),
 (58, ⟨false, 1, [.int .u64 (.lit 0)], [], none, some .u64, false, false, none, 8, false⟩)]
set_option maxRecDepth 100000 in
theorem tysck_XbD : (tys_XbD.all fun p => ckTI Tryz.prog p.1 p.2) = true := by kernel_rfl
theorem tysne_XbD : (tys_XbD.all fun p => !p.2.eqok) = true := by kernel_rfl
theorem tysok_XbD : ∀ t i, (t, i) ∈ tys_XbD → TIok Tryz.prog t i := by
  intro t i h
  have h1 := all_at (f := fun _ i => !i.eqok) tysne_XbD h
  exact TIok_of (all_at (f := ckTI Tryz.prog) tysck_XbD h) (fun he => by simp [he] at h1) (fun he => by simp [he] at h1)
def sM_do (key : Nat) : Sm := ⟨68, key, [.one (.int .i8), .agg kRg, .agg kRg], [.agg kRg], false⟩
def sV_do (op : Int) (a : Rg) (b : Rg) : List Dt := [.z ((bdo op a b).ul), .z ((bdo op a b).uh), .z ((bdo op a b).sl), .z ((bdo op a b).sh)]
def sF_do : List Dt → List Dt
  | [.z x0, .z x1, .z x2, .z x3, .z x4, .z x5, .z x6, .z x7, .z x8] => sV_do x0 ⟨x1, x2, x3, x4⟩ ⟨x5, x6, x7, x8⟩
  | _ => []
def sT_do : Tr :=
(.call 0 ([.bool]) (.vs 1 4 .nil) 9
(.br (.bvar 9)
(.call 0 ([.bool]) (.vs 5 4 .nil) 10
(.br (.bvar 10)
(.call 1 (kRg) .nil 11
(.call 2 ([.int .u64] ++ [.bool]) (.vs 5 4 .nil) 15
(.call 3 ([.int .i64]) (.cons (.mx (.var 2) (.var 6)) .nil) 17
(.br (.lt (.var 17) (.lit 0))
.panic
(.br (.eq (.var 0) (.lit 11))
(.call 6 (kRg) (.vs 5 4 .nil) 18
(.leaf (.vs 18 4 .nil)))
(.br (.eq (.var 0) (.lit 0))
(.call 5 (kRg) (.vs 1 8 (.consb (.eq (.var 0) (.lit 1)) .nil)) 18
(.call 6 (kRg) (.vs 18 4 .nil) 22
(.leaf (.vs 22 4 .nil))))
(.br (.eq (.var 0) (.lit 1))
(.call 5 (kRg) (.vs 1 8 (.consb (.eq (.var 0) (.lit 1)) .nil)) 18
(.call 6 (kRg) (.vs 18 4 .nil) 22
(.leaf (.vs 22 4 .nil))))
(.br (.eq (.var 0) (.lit 5))
(.call 6 (kRg) (.cons (.var 11) (.cons (.mn (.var 2) (.var 6)) (.vs 13 2 .nil))) 18
(.leaf (.vs 18 4 .nil)))
(.br (.eq (.var 0) (.lit 4))
(.call 6 (kRg) (.cons (.mx (.var 1) (.var 5)) (.cons (.bin .sub .u64 (.bin .shl .u64 (.lit 1) (.var 17)) (.lit 1)) (.vs 13 2 .nil))) 18
(.leaf (.vs 18 4 .nil)))
(.br (.eq (.var 0) (.lit 10))
(.call 6 (kRg) (.cons (.var 11) (.cons (.bin .sub .u64 (.bin .shl .u64 (.lit 1) (.var 17)) (.lit 1)) (.vs 13 2 .nil))) 18
(.leaf (.vs 18 4 .nil)))
(.br (.eq (.var 0) (.lit 3))
(.br (.lt (.lit 0) (.var 5))
(.br (.eq (.var 6) (.lit 0))
.panic
(.br (.eq (.var 5) (.lit 0))
.panic
(.call 6 (kRg) (.cons (.bin .quo .u64 (.var 1) (.var 6)) (.cons (.bin .quo .u64 (.var 2) (.var 5)) (.vs 13 2 .nil))) 18
(.leaf (.vs 18 4 .nil)))))
(.call 6 (kRg) (.cons (.var 11) (.cons (.var 2) (.vs 13 2 .nil))) 18
(.leaf (.vs 18 4 .nil))))
(.br (.eq (.var 0) (.lit 9))
(.br (.lt (.lit 0) (.var 5))
(.call 6 (kRg) (.cons (.var 11) (.cons (.mn (.var 2) (.bin .sub .u64 (.var 6) (.lit 1))) (.vs 13 2 .nil))) 18
(.leaf (.vs 18 4 .nil)))
(.call 6 (kRg) (.cons (.var 11) (.cons (.var 2) (.vs 13 2 .nil))) 18
(.leaf (.vs 18 4 .nil))))
(.br (.eq (.var 0) (.lit 7))
(.br (.bvar 16)
(.call 6 (kRg) (.cons (.bin .shr .u64 (.var 1) (.bin .and .u64 (.var 15) (.lit 63))) (.cons (.bin .shr .u64 (.var 2) (.bin .and .u64 (.var 15) (.lit 63))) (.vs 13 2 .nil))) 18
(.leaf (.vs 18 4 .nil)))
(.call 6 (kRg) (.vs 11 4 .nil) 18
(.leaf (.vs 18 4 .nil))))
(.br (.eq (.var 0) (.lit 6))
(.br (.bvar 16)
(.call 4 ([.int .i64]) (.cons (.var 2) .nil) 18
(.br (.lt (.var 18) (.conv .i64 (.bin .and .u64 (.var 15) (.lit 63))))
(.call 6 (kRg) (.vs 11 4 .nil) 19
(.leaf (.vs 19 4 .nil)))
(.call 6 (kRg) (.cons (.bin .shl .u64 (.var 1) (.bin .and .u64 (.var 15) (.lit 63))) (.cons (.bin .shl .u64 (.var 2) (.bin .and .u64 (.var 15) (.lit 63))) (.vs 13 2 .nil))) 19
(.leaf (.vs 19 4 .nil)))))
(.call 6 (kRg) (.vs 11 4 .nil) 18
(.leaf (.vs 18 4 .nil))))
(.call 6 (kRg) (.vs 11 4 .nil) 18
(.leaf (.vs 18 4 .nil)))))))))))))))))
(.call 1 (kRg) .nil 11
(.leaf (.vs 11 4 .nil)))))
(.call 1 (kRg) .nil 10
(.leaf (.vs 10 4 .nil)))))
def sP_do : Spec := ⟨fun k => match k with | 0 => sF_may | 1 => sF_all | 2 => sF_single | 3 => sF_len | 4 => sF_lz | 5 => sF_sum | 6 => sF_nard | _ => fun _ => [], fun k => match k with | _ => fun _ => True⟩
set_option maxRecDepth 100000 in
theorem sR_do : treeIs tys_XbD [sM_may 0, sM_all 1, sM_single 2, sM_len 3, sM_lz 4, sM_sum 5, sM_nard 6] [] [] 200 Tryz.f68 [.one (.int .i8), .agg kRg, .agg kRg] [.agg kRg] false [.int .i8, .int .u64, .int .u64, .int .i64, .int .i64, .int .u64, .int .u64, .int .i64, .int .i64] sT_do := ⟨by kernel_rfl, by kernel_rfl, by kernel_rfl⟩
set_option maxRecDepth 100000 in
set_option maxHeartbeats 8000000 in
theorem sX_do (op : Int) (hop : inK .i8 op = true) (a : Rg) (ha : Rg.ok a) (b : Rg) (hb : Rg.ok b) (ρ : Env) (g : varsD ρ 0 [.int .i8, .int .u64, .int .u64, .int .i64, .int .i64, .int .u64, .int .u64, .int .i64, .int .i64] = [.z op, .z a.ul, .z a.uh, .z a.sl, .z a.sh, .z b.ul, .z b.uh, .z b.sl, .z b.sh]) : sT_do.asks sP_do (fun ρ e => e.D ρ = sF_do [.z op, .z a.ul, .z a.uh, .z a.sl, .z a.sh, .z b.ul, .z b.uh, .z b.sl, .z b.sh]) ρ fun _ _ => False := by
  simp only [varsD, varD, List.cons.injEq, Dt.z.injEq, Dt.l.injEq, b2i_eq_iff, Nat.reduceAdd, and_true] at g
  simp only [sT_do, sP_do, kRg, sF_may, sF_all, sF_single, sF_len, sF_lz, sF_sum, sF_nard, sV_may, sV_single, sV_len, sV_lz, sV_sum, sV_nard, sF_do, sV_do, Tr.asks, upd_same, okDs, okD, eqs, E.I, E.B, E.L, E.R, E.D, E.vs, dI, dB, dL, varD, varsD, List.getElem?_cons_zero, List.getElem?_cons_succ, List.cons_append, List.nil_append, Nat.zero_add, Nat.add_zero, Nat.reduceAdd, and_true, true_and, b2i_one, -eq_self, Pi.eta, Pu.eta, Rg.eta, g]
  intro e; (try simp only [e, Pi.eta, Pu.eta, Rg.eta, -eq_self]); clear e
  refine ⟨fun c0 => ?_, fun c0 => ?_⟩
  intro e; (try simp only [e, Pi.eta, Pu.eta, Rg.eta, -eq_self]); clear e
  refine ⟨fun c1 => ?_, fun c1 => ?_⟩
  intro e; (try simp only [e, Pi.eta, Pu.eta, Rg.eta, -eq_self]); clear e
  intro e; (try simp only [e, Pi.eta, Pu.eta, Rg.eta, -eq_self]); clear e
  intro e; (try simp only [e, Pi.eta, Pu.eta, Rg.eta, -eq_self]); clear e
  refine ⟨fun c2 => ?_, fun c2 => ?_⟩
  show False
  exact absurd (of_decide_eq_true c2) (by omega)
  refine ⟨fun c3 => ?_, fun c3 => ?_⟩
  intro e; (try simp only [e, Pi.eta, Pu.eta, Rg.eta, -eq_self]); clear e
  exact agg_Rg (dq_11 ha hb c0 c1 c3)
  refine ⟨fun c4 => ?_, fun c4 => ?_⟩
  intro e; (try simp only [e, Pi.eta, Pu.eta, Rg.eta, -eq_self]); clear e
  intro e; (try simp only [e, Pi.eta, Pu.eta, Rg.eta, -eq_self]); clear e
  exact agg_Rg (dq_0 ha hb c0 c1 c4)
  refine ⟨fun c5 => ?_, fun c5 => ?_⟩
  intro e; (try simp only [e, Pi.eta, Pu.eta, Rg.eta, -eq_self]); clear e
  intro e; (try simp only [e, Pi.eta, Pu.eta, Rg.eta, -eq_self]); clear e
  exact agg_Rg (dq_1 ha hb c0 c1 c5)
  refine ⟨fun c6 => ?_, fun c6 => ?_⟩
  intro e; (try simp only [e, Pi.eta, Pu.eta, Rg.eta, -eq_self]); clear e
  exact agg_Rg (dq_5 ha hb c0 c1 c6)
  refine ⟨fun c7 => ?_, fun c7 => ?_⟩
  intro e; (try simp only [e, Pi.eta, Pu.eta, Rg.eta, -eq_self]); clear e
  exact agg_Rg (dq_4 ha hb c0 c1 c7)
  refine ⟨fun c8 => ?_, fun c8 => ?_⟩
  intro e; (try simp only [e, Pi.eta, Pu.eta, Rg.eta, -eq_self]); clear e
  exact agg_Rg (dq_10 ha hb c0 c1 c8)
  refine ⟨fun c9 => ?_, fun c9 => ?_⟩
  refine ⟨fun c10 => ?_, fun c10 => ?_⟩
  refine ⟨fun c11 => ?_, fun c11 => ?_⟩
  show False
  (have hm := (bmay_iff b).1 c1; have h1 := of_decide_eq_true c10; have h2 := eqz c11; omega)
  refine ⟨fun c12 => ?_, fun c12 => ?_⟩
  show False
  (have hm := (bmay_iff b).1 c1; have h1 := of_decide_eq_true c10; have h2 := eqz c12; omega)
  intro e; (try simp only [e, Pi.eta, Pu.eta, Rg.eta, -eq_self]); clear e
  exact agg_Rg (dq_3 ha hb c0 c1 c9 c10)
  intro e; (try simp only [e, Pi.eta, Pu.eta, Rg.eta, -eq_self]); clear e
  exact agg_Rg (dq_3n ha hb c0 c1 c9 c10)
  refine ⟨fun c13 => ?_, fun c13 => ?_⟩
  refine ⟨fun c14 => ?_, fun c14 => ?_⟩
  intro e; (try simp only [e, Pi.eta, Pu.eta, Rg.eta, -eq_self]); clear e
  exact agg_Rg (dq_9 ha hb c0 c1 c13 c14)
  intro e; (try simp only [e, Pi.eta, Pu.eta, Rg.eta, -eq_self]); clear e
  exact agg_Rg (dq_9n ha hb c0 c1 c13 c14)
  refine ⟨fun c15 => ?_, fun c15 => ?_⟩
  refine ⟨fun c16 => ?_, fun c16 => ?_⟩
  intro e; (try simp only [e, Pi.eta, Pu.eta, Rg.eta, -eq_self]); clear e
  exact agg_Rg (dq_7 ha hb c0 c1 c15 c16)
  intro e; (try simp only [e, Pi.eta, Pu.eta, Rg.eta, -eq_self]); clear e
  exact agg_Rg (dq_7n ha hb c0 c1 c15 c16)
  refine ⟨fun c17 => ?_, fun c17 => ?_⟩
  refine ⟨fun c18 => ?_, fun c18 => ?_⟩
  intro e; (try simp only [e, Pi.eta, Pu.eta, Rg.eta, -eq_self]); clear e
  refine ⟨fun c19 => ?_, fun c19 => ?_⟩
  intro e; (try simp only [e, Pi.eta, Pu.eta, Rg.eta, -eq_self]); clear e
  exact agg_Rg (dq_6n ha hb c0 c1 c17 c18 c19)
  intro e; (try simp only [e, Pi.eta, Pu.eta, Rg.eta, -eq_self]); clear e
  exact agg_Rg (dq_6 ha hb c0 c1 c17 c18 c19)
  intro e; (try simp only [e, Pi.eta, Pu.eta, Rg.eta, -eq_self]); clear e
  exact agg_Rg (dq_6m ha hb c0 c1 c17 c18)
  intro e; (try simp only [e, Pi.eta, Pu.eta, Rg.eta, -eq_self]); clear e
  exact agg_Rg (dq_x ha hb c0 c1 c3 c4 c5 c6 c7 c8 c9 c13 c15 c17)
  intro e; (try simp only [e, Pi.eta, Pu.eta, Rg.eta, -eq_self]); clear e
  exact agg_Rg (dq_bad (.inr c1))
  intro e; (try simp only [e, Pi.eta, Pu.eta, Rg.eta, -eq_self]); clear e
  exact agg_Rg (dq_bad (.inl c0))
theorem sK_do {sp : Spec} {key : Nat} (hF : sp.F key = sF_do) (hP : sp.pre key = fun _ => True := by rfl) : SmOk Tryz.prog sp (sM_do key) :=
  fun_ok (s := sM_do key) hF hP (by kernel_rfl) tysok_XbD (smc (sK_may rfl) (smc (sK_all rfl) (smc (sK_single rfl) (smc (sK_len rfl) (smc (sK_lz rfl) (smc (sK_sum rfl) (smc (sK_nard rfl) sm0))))))) Tryz.func68 sR_do (.inl rfl) (fun x0 gx0 x1 gx1 x2 gx2 x3 gx3 x4 gx4 x5 gx5 x6 gx6 x7 gx7 x8 gx8 hp ρ g => sX_do x0 gx0 ⟨x1, x2, x3, x4⟩ ⟨gx1, gx2, gx3, gx4⟩ ⟨x5, x6, x7, x8⟩ ⟨gx5, gx6, gx7, gx8⟩ ρ g)
end Go.Proofs.YtcfnglbcgkappaaGreat
