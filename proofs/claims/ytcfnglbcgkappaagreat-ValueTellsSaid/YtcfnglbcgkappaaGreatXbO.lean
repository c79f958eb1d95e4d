/- Contracts of Do and Given of the document's own package of layer 7, by the symbolic run. -/
import Derived.Test.YtcfnglbcgkappaaGreatXbN
import Derived.Test.YtcfnglbcgkappaaGreatProg
import Derived.Laws.Externs
set_option linter.unusedVariables false
set_option linter.unusedSimpArgs false
namespace Go.Proofs.YtcfnglbcgkappaaGreat
open Go.RowKit Go.ChangeShapes Go.WideShapes

def tys_XbO : List (Nat × TI) := [(2, ⟨false, 1, [.int .i64 (.lit 0)], [], none, some .i64, false, false, none, 8, false⟩),
 (22, ⟨false, 1, [.int .i8 (.lit 0)], [], none, some .i8, false, false, none, 1, false⟩),
 (23, ⟨false, 1, [.int .u64 (.lit 0)], [], none, some .u64, false, false, none, 8, false⟩),
 (25, ⟨true, 4, [.int .u64 (.lit 0), .int .u64 (.lit 0), .int .i64 (.lit 0), .int .i64 (.lit 0)], [(0, 23), (1, 23), (2, 2), (3, 2)], none, none, false, false, none, 32, false⟩)]
set_option maxRecDepth 100000 in
theorem tysck_XbO : (tys_XbO.all fun p => ckTI Tryz.prog p.1 p.2) = true := by kernel_rfl
theorem tysne_XbO : (tys_XbO.all fun p => !p.2.eqok) = true := by kernel_rfl
theorem tysok_XbO : ∀ t i, (t, i) ∈ tys_XbO → TIok Tryz.prog t i := by
  intro t i h
  have h1 := all_at (f := fun _ i => !i.eqok) tysne_XbO h
  exact TIok_of (all_at (f := ckTI Tryz.prog) tysck_XbO h) (fun he => by simp [he] at h1) (fun he => by simp [he] at h1)
def sM_rdo (key : Nat) : Sm := ⟨73, key, [.one (.int .i8), .agg kRg, .agg kRg], [.agg kRg], false⟩
def sV_rdo (op : Int) (a : Rg) (b : Rg) : List Dt := [.z ((bdo op a b).ul), .z ((bdo op a b).uh), .z ((bdo op a b).sl), .z ((bdo op a b).sh)]
def sF_rdo : List Dt → List Dt
  | [.z x0, .z x1, .z x2, .z x3, .z x4, .z x5, .z x6, .z x7, .z x8] => sV_rdo x0 ⟨x1, x2, x3, x4⟩ ⟨x5, x6, x7, x8⟩
  | _ => []
def sT_rdo : Tr :=
(.call 1 (kRg) .nil 9
(.call 0 ([.bool]) (.vs 1 4 .nil) 13
(.br (.bvar 13)
(.call 0 ([.bool]) (.vs 5 4 .nil) 14
(.br (.bvar 14)
(.call 2 ([.int .u64] ++ [.bool]) (.vs 5 4 .nil) 15
(.br (.eq (.var 0) (.lit 11))
(.call 6 (kRg) (.vs 5 4 .nil) 17
(.leaf (.vs 17 4 .nil)))
(.br (.eq (.var 0) (.lit 0))
(.br (.lt (.bin .add .u64 (.var 2) (.var 6)) (.var 2))
(.call 3 ([.int .i64] ++ [.bool]) (.cons (.var 3) (.cons (.var 7) .nil)) 17
(.call 3 ([.int .i64] ++ [.bool]) (.cons (.var 4) (.cons (.var 8) .nil)) 19
(.br (.bvar 18)
(.br (.bvar 20)
(.call 6 (kRg) (.vs 9 2 (.cons (.var 17) (.cons (.var 19) .nil))) 21
(.leaf (.vs 21 4 .nil)))
(.call 6 (kRg) (.vs 9 4 .nil) 21
(.leaf (.vs 21 4 .nil))))
(.call 6 (kRg) (.vs 9 4 .nil) 21
(.leaf (.vs 21 4 .nil))))))
(.call 3 ([.int .i64] ++ [.bool]) (.cons (.var 3) (.cons (.var 7) .nil)) 17
(.call 3 ([.int .i64] ++ [.bool]) (.cons (.var 4) (.cons (.var 8) .nil)) 19
(.br (.bvar 18)
(.br (.bvar 20)
(.call 6 (kRg) (.cons (.bin .add .u64 (.var 1) (.var 5)) (.cons (.bin .add .u64 (.var 2) (.var 6)) (.cons (.var 17) (.cons (.var 19) .nil)))) 21
(.leaf (.vs 21 4 .nil)))
(.call 6 (kRg) (.cons (.bin .add .u64 (.var 1) (.var 5)) (.cons (.bin .add .u64 (.var 2) (.var 6)) (.vs 11 2 .nil))) 21
(.leaf (.vs 21 4 .nil))))
(.call 6 (kRg) (.cons (.bin .add .u64 (.var 1) (.var 5)) (.cons (.bin .add .u64 (.var 2) (.var 6)) (.vs 11 2 .nil))) 21
(.leaf (.vs 21 4 .nil)))))))
(.br (.eq (.var 0) (.lit 1))
(.br (.lt (.var 1) (.var 6))
(.call 4 ([.int .i64] ++ [.bool]) (.cons (.var 3) (.cons (.var 8) .nil)) 17
(.call 4 ([.int .i64] ++ [.bool]) (.cons (.var 4) (.cons (.var 7) .nil)) 19
(.br (.bvar 18)
(.br (.bvar 20)
(.call 6 (kRg) (.vs 9 2 (.cons (.var 17) (.cons (.var 19) .nil))) 21
(.leaf (.vs 21 4 .nil)))
(.call 6 (kRg) (.vs 9 4 .nil) 21
(.leaf (.vs 21 4 .nil))))
(.call 6 (kRg) (.vs 9 4 .nil) 21
(.leaf (.vs 21 4 .nil))))))
(.call 4 ([.int .i64] ++ [.bool]) (.cons (.var 3) (.cons (.var 8) .nil)) 17
(.call 4 ([.int .i64] ++ [.bool]) (.cons (.var 4) (.cons (.var 7) .nil)) 19
(.br (.bvar 18)
(.br (.bvar 20)
(.call 6 (kRg) (.cons (.bin .sub .u64 (.var 1) (.var 6)) (.cons (.bin .sub .u64 (.var 2) (.var 5)) (.cons (.var 17) (.cons (.var 19) .nil)))) 21
(.leaf (.vs 21 4 .nil)))
(.call 6 (kRg) (.cons (.bin .sub .u64 (.var 1) (.var 6)) (.cons (.bin .sub .u64 (.var 2) (.var 5)) (.vs 11 2 .nil))) 21
(.leaf (.vs 21 4 .nil))))
(.call 6 (kRg) (.cons (.bin .sub .u64 (.var 1) (.var 6)) (.cons (.bin .sub .u64 (.var 2) (.var 5)) (.vs 11 2 .nil))) 21
(.leaf (.vs 21 4 .nil)))))))
(.br (.eq (.var 0) (.lit 5))
(.call 6 (kRg) (.cons (.var 9) (.cons (.mn (.var 2) (.var 6)) (.vs 11 2 .nil))) 17
(.leaf (.vs 17 4 .nil)))
(.br (.eq (.var 0) (.lit 4))
(.call 5 ([.int .u64]) (.cons (.mx (.var 2) (.var 6)) .nil) 17
(.call 6 (kRg) (.cons (.mx (.var 1) (.var 5)) (.cons (.var 17) (.vs 11 2 .nil))) 18
(.leaf (.vs 18 4 .nil))))
(.br (.eq (.var 0) (.lit 10))
(.call 5 ([.int .u64]) (.cons (.mx (.var 2) (.var 6)) .nil) 17
(.call 6 (kRg) (.cons (.var 9) (.cons (.var 17) (.vs 11 2 .nil))) 18
(.leaf (.vs 18 4 .nil))))
(.br (.eq (.var 0) (.lit 3))
(.br (.lt (.lit 0) (.var 5))
(.br (.eq (.var 6) (.lit 0))
.panic
(.br (.eq (.var 5) (.lit 0))
.panic
(.call 6 (kRg) (.cons (.bin .quo .u64 (.var 1) (.var 6)) (.cons (.bin .quo .u64 (.var 2) (.var 5)) (.vs 11 2 .nil))) 17
(.leaf (.vs 17 4 .nil)))))
(.call 6 (kRg) (.cons (.var 9) (.cons (.var 2) (.vs 11 2 .nil))) 17
(.leaf (.vs 17 4 .nil))))
(.br (.eq (.var 0) (.lit 9))
(.br (.lt (.lit 0) (.var 5))
(.call 6 (kRg) (.cons (.var 9) (.cons (.mn (.var 2) (.bin .sub .u64 (.var 6) (.lit 1))) (.vs 11 2 .nil))) 17
(.leaf (.vs 17 4 .nil)))
(.call 6 (kRg) (.cons (.var 9) (.cons (.var 2) (.vs 11 2 .nil))) 17
(.leaf (.vs 17 4 .nil))))
(.br (.eq (.var 0) (.lit 7))
(.br (.bvar 16)
(.call 6 (kRg) (.cons (.bin .shr .u64 (.var 1) (.bin .rem .u64 (.var 15) (.lit 64))) (.cons (.bin .shr .u64 (.var 2) (.bin .rem .u64 (.var 15) (.lit 64))) (.vs 11 2 .nil))) 17
(.leaf (.vs 17 4 .nil)))
(.call 6 (kRg) (.vs 9 4 .nil) 17
(.leaf (.vs 17 4 .nil))))
(.br (.eq (.var 0) (.lit 6))
(.br (.bvar 16)
(.br (.eq (.bin .shr .u64 (.bin .shl .u64 (.var 2) (.bin .rem .u64 (.var 15) (.lit 64))) (.bin .rem .u64 (.var 15) (.lit 64))) (.var 2))
(.call 6 (kRg) (.cons (.bin .shl .u64 (.var 1) (.bin .rem .u64 (.var 15) (.lit 64))) (.cons (.bin .shl .u64 (.var 2) (.bin .rem .u64 (.var 15) (.lit 64))) (.vs 11 2 .nil))) 17
(.leaf (.vs 17 4 .nil)))
(.call 6 (kRg) (.vs 9 4 .nil) 17
(.leaf (.vs 17 4 .nil))))
(.call 6 (kRg) (.vs 9 4 .nil) 17
(.leaf (.vs 17 4 .nil))))
(.call 6 (kRg) (.vs 9 4 .nil) 17
(.leaf (.vs 17 4 .nil))))))))))))))
(.leaf (.vs 9 4 .nil))))
(.leaf (.vs 9 4 .nil)))))
def sP_rdo : Spec := ⟨fun k => match k with | 0 => sF_rmay | 1 => sF_rall | 2 => sF_rsingle | 3 => sF_rplus | 4 => sF_rminus | 5 => sF_rfill | 6 => sF_rnard | _ => fun _ => [], fun k => match k with | _ => fun _ => True⟩
set_option maxRecDepth 100000 in
theorem sR_rdo : treeIs tys_XbO [sM_rmay 0, sM_rall 1, sM_rsingle 2, sM_rplus 3, sM_rminus 4, sM_rfill 5, sM_rnard 6] [] [] 200 Tryz.f73 [.one (.int .i8), .agg kRg, .agg kRg] [.agg kRg] false [.int .i8, .int .u64, .int .u64, .int .i64, .int .i64, .int .u64, .int .u64, .int .i64, .int .i64] sT_rdo := ⟨by kernel_rfl, by kernel_rfl, by kernel_rfl⟩
set_option maxRecDepth 100000 in
set_option maxHeartbeats 8000000 in
theorem sX_rdo (op : Int) (hop : inK .i8 op = true) (a : Rg) (ha : Rg.ok a) (b : Rg) (hb : Rg.ok b) (ρ : Env) (g : varsD ρ 0 [.int .i8, .int .u64, .int .u64, .int .i64, .int .i64, .int .u64, .int .u64, .int .i64, .int .i64] = [.z op, .z a.ul, .z a.uh, .z a.sl, .z a.sh, .z b.ul, .z b.uh, .z b.sl, .z b.sh]) : sT_rdo.asks sP_rdo (fun ρ e => e.D ρ = sF_rdo [.z op, .z a.ul, .z a.uh, .z a.sl, .z a.sh, .z b.ul, .z b.uh, .z b.sl, .z b.sh]) ρ fun _ _ => False := by
  simp only [varsD, varD, List.cons.injEq, Dt.z.injEq, Dt.l.injEq, b2i_eq_iff, Nat.reduceAdd, and_true] at g
  simp only [sT_rdo, sP_rdo, kRg, sF_rmay, sF_rall, sF_rsingle, sF_rplus, sF_rminus, sF_rfill, sF_rnard, sV_rmay, sV_rsingle, sV_rplus, sV_rminus, sV_rfill, sV_rnard, sF_rdo, sV_rdo, Tr.asks, upd_same, okDs, okD, eqs, E.I, E.B, E.L, E.R, E.D, E.vs, dI, dB, dL, varD, varsD, List.getElem?_cons_zero, List.getElem?_cons_succ, List.cons_append, List.nil_append, Nat.zero_add, Nat.add_zero, Nat.reduceAdd, and_true, true_and, b2i_one, -eq_self, Pi.eta, Pu.eta, Rg.eta, g]
  intro e; (try simp only [e, Pi.eta, Pu.eta, Rg.eta, -eq_self]); clear e
  intro e; (try simp only [e, Pi.eta, Pu.eta, Rg.eta, -eq_self]); clear e
  refine ⟨fun c0 => ?_, fun c0 => ?_⟩
  intro e; (try simp only [e, Pi.eta, Pu.eta, Rg.eta, -eq_self]); clear e
  refine ⟨fun c1 => ?_, fun c1 => ?_⟩
  intro e; (try simp only [e, Pi.eta, Pu.eta, Rg.eta, -eq_self]); clear e
  refine ⟨fun c2 => ?_, fun c2 => ?_⟩
  intro e; (try simp only [e, Pi.eta, Pu.eta, Rg.eta, -eq_self]); clear e
  exact agg_Rg (dq_11 ha hb c0 c1 c2)
  refine ⟨fun c3 => ?_, fun c3 => ?_⟩
  refine ⟨fun c4 => ?_, fun c4 => ?_⟩
  intro e; (try simp only [e, Pi.eta, Pu.eta, Rg.eta, -eq_self]); clear e
  intro e; (try simp only [e, Pi.eta, Pu.eta, Rg.eta, -eq_self]); clear e
  refine ⟨fun c5 => ?_, fun c5 => ?_⟩
  refine ⟨fun c6 => ?_, fun c6 => ?_⟩
  intro e; (try simp only [e, Pi.eta, Pu.eta, Rg.eta, -eq_self]); clear e
  exact agg_Rg (rd_0 ha hb c0 c1 c3 (ru_s0 ha hb c4) (sum_s1 c5 c6))
  intro e; (try simp only [e, Pi.eta, Pu.eta, Rg.eta, -eq_self]); clear e
  exact agg_Rg (rd_0 ha hb c0 c1 c3 (ru_s0 ha hb c4) (sum_s0 (.inr c6)))
  intro e; (try simp only [e, Pi.eta, Pu.eta, Rg.eta, -eq_self]); clear e
  exact agg_Rg (rd_0 ha hb c0 c1 c3 (ru_s0 ha hb c4) (sum_s0 (.inl c5)))
  intro e; (try simp only [e, Pi.eta, Pu.eta, Rg.eta, -eq_self]); clear e
  intro e; (try simp only [e, Pi.eta, Pu.eta, Rg.eta, -eq_self]); clear e
  refine ⟨fun c7 => ?_, fun c7 => ?_⟩
  refine ⟨fun c8 => ?_, fun c8 => ?_⟩
  intro e; (try simp only [e, Pi.eta, Pu.eta, Rg.eta, -eq_self]); clear e
  exact agg_Rg (rd_0 ha hb c0 c1 c3 (ru_s1 ha hb c4) (sum_s1 c7 c8))
  intro e; (try simp only [e, Pi.eta, Pu.eta, Rg.eta, -eq_self]); clear e
  exact agg_Rg (rd_0 ha hb c0 c1 c3 (ru_s1 ha hb c4) (sum_s0 (.inr c8)))
  intro e; (try simp only [e, Pi.eta, Pu.eta, Rg.eta, -eq_self]); clear e
  exact agg_Rg (rd_0 ha hb c0 c1 c3 (ru_s1 ha hb c4) (sum_s0 (.inl c7)))
  refine ⟨fun c9 => ?_, fun c9 => ?_⟩
  refine ⟨fun c10 => ?_, fun c10 => ?_⟩
  intro e; (try simp only [e, Pi.eta, Pu.eta, Rg.eta, -eq_self]); clear e
  intro e; (try simp only [e, Pi.eta, Pu.eta, Rg.eta, -eq_self]); clear e
  refine ⟨fun c11 => ?_, fun c11 => ?_⟩
  refine ⟨fun c12 => ?_, fun c12 => ?_⟩
  intro e; (try simp only [e, Pi.eta, Pu.eta, Rg.eta, -eq_self]); clear e
  exact agg_Rg (rd_1 ha hb c0 c1 c9 (dif_u0 c10) (dif_s1 c11 c12))
  intro e; (try simp only [e, Pi.eta, Pu.eta, Rg.eta, -eq_self]); clear e
  exact agg_Rg (rd_1 ha hb c0 c1 c9 (dif_u0 c10) (dif_s0 (.inr c12)))
  intro e; (try simp only [e, Pi.eta, Pu.eta, Rg.eta, -eq_self]); clear e
  exact agg_Rg (rd_1 ha hb c0 c1 c9 (dif_u0 c10) (dif_s0 (.inl c11)))
  intro e; (try simp only [e, Pi.eta, Pu.eta, Rg.eta, -eq_self]); clear e
  intro e; (try simp only [e, Pi.eta, Pu.eta, Rg.eta, -eq_self]); clear e
  refine ⟨fun c13 => ?_, fun c13 => ?_⟩
  refine ⟨fun c14 => ?_, fun c14 => ?_⟩
  intro e; (try simp only [e, Pi.eta, Pu.eta, Rg.eta, -eq_self]); clear e
  exact agg_Rg (rd_1 ha hb c0 c1 c9 (dif_u1 c10) (dif_s1 c13 c14))
  intro e; (try simp only [e, Pi.eta, Pu.eta, Rg.eta, -eq_self]); clear e
  exact agg_Rg (rd_1 ha hb c0 c1 c9 (dif_u1 c10) (dif_s0 (.inr c14)))
  intro e; (try simp only [e, Pi.eta, Pu.eta, Rg.eta, -eq_self]); clear e
  exact agg_Rg (rd_1 ha hb c0 c1 c9 (dif_u1 c10) (dif_s0 (.inl c13)))
  refine ⟨fun c15 => ?_, fun c15 => ?_⟩
  intro e; (try simp only [e, Pi.eta, Pu.eta, Rg.eta, -eq_self]); clear e
  exact agg_Rg (dq_5 ha hb c0 c1 c15)
  refine ⟨fun c16 => ?_, fun c16 => ?_⟩
  intro e; (try simp only [e, Pi.eta, Pu.eta, Rg.eta, -eq_self]); clear e
  intro e; (try simp only [e, Pi.eta, Pu.eta, Rg.eta, -eq_self]); clear e
  exact agg_Rg (rd_4 ha hb c0 c1 c16)
  refine ⟨fun c17 => ?_, fun c17 => ?_⟩
  intro e; (try simp only [e, Pi.eta, Pu.eta, Rg.eta, -eq_self]); clear e
  intro e; (try simp only [e, Pi.eta, Pu.eta, Rg.eta, -eq_self]); clear e
  exact agg_Rg (rd_10 ha hb c0 c1 c17)
  refine ⟨fun c18 => ?_, fun c18 => ?_⟩
  refine ⟨fun c19 => ?_, fun c19 => ?_⟩
  refine ⟨fun c20 => ?_, fun c20 => ?_⟩
  show False
  (have hm := (bmay_iff b).1 c1; have h1 := of_decide_eq_true c19; have h2 := eqz c20; omega)
  refine ⟨fun c21 => ?_, fun c21 => ?_⟩
  show False
  (have hm := (bmay_iff b).1 c1; have h1 := of_decide_eq_true c19; have h2 := eqz c21; omega)
  intro e; (try simp only [e, Pi.eta, Pu.eta, Rg.eta, -eq_self]); clear e
  exact agg_Rg (dq_3 ha hb c0 c1 c18 c19)
  intro e; (try simp only [e, Pi.eta, Pu.eta, Rg.eta, -eq_self]); clear e
  exact agg_Rg (dq_3n ha hb c0 c1 c18 c19)
  refine ⟨fun c22 => ?_, fun c22 => ?_⟩
  refine ⟨fun c23 => ?_, fun c23 => ?_⟩
  intro e; (try simp only [e, Pi.eta, Pu.eta, Rg.eta, -eq_self]); clear e
  exact agg_Rg (dq_9 ha hb c0 c1 c22 c23)
  intro e; (try simp only [e, Pi.eta, Pu.eta, Rg.eta, -eq_self]); clear e
  exact agg_Rg (dq_9n ha hb c0 c1 c22 c23)
  refine ⟨fun c24 => ?_, fun c24 => ?_⟩
  refine ⟨fun c25 => ?_, fun c25 => ?_⟩
  intro e; (try simp only [e, Pi.eta, Pu.eta, Rg.eta, -eq_self]); clear e
  exact agg_Rg (rd_7 ha hb c0 c1 c24 c25)
  intro e; (try simp only [e, Pi.eta, Pu.eta, Rg.eta, -eq_self]); clear e
  exact agg_Rg (dq_7n ha hb c0 c1 c24 c25)
  refine ⟨fun c26 => ?_, fun c26 => ?_⟩
  refine ⟨fun c27 => ?_, fun c27 => ?_⟩
  refine ⟨fun c28 => ?_, fun c28 => ?_⟩
  intro e; (try simp only [e, Pi.eta, Pu.eta, Rg.eta, -eq_self]); clear e
  exact agg_Rg (rd_6 ha hb c0 c1 c26 c27 c28)
  intro e; (try simp only [e, Pi.eta, Pu.eta, Rg.eta, -eq_self]); clear e
  exact agg_Rg (rd_6n ha hb c0 c1 c26 c27 c28)
  intro e; (try simp only [e, Pi.eta, Pu.eta, Rg.eta, -eq_self]); clear e
  exact agg_Rg (dq_6m ha hb c0 c1 c26 c27)
  intro e; (try simp only [e, Pi.eta, Pu.eta, Rg.eta, -eq_self]); clear e
  exact agg_Rg (dq_x ha hb c0 c1 c2 c3 c9 c15 c16 c17 c18 c22 c24 c26)
  exact agg_Rg (dq_bad (.inr c1))
  exact agg_Rg (dq_bad (.inl c0))
theorem sK_rdo {sp : Spec} {key : Nat} (hF : sp.F key = sF_rdo) (hP : sp.pre key = fun _ => True := by rfl) : SmOk Tryz.prog sp (sM_rdo key) :=
  fun_ok (s := sM_rdo key) hF hP (by kernel_rfl) tysok_XbO (smc (sK_rmay rfl) (smc (sK_rall rfl) (smc (sK_rsingle rfl) (smc (sK_rplus rfl) (smc (sK_rminus rfl) (smc (sK_rfill rfl) (smc (sK_rnard rfl) sm0))))))) Tryz.func73 sR_rdo (.inl rfl) (fun x0 gx0 x1 gx1 x2 gx2 x3 gx3 x4 gx4 x5 gx5 x6 gx6 x7 gx7 x8 gx8 hp ρ g => sX_rdo x0 gx0 ⟨x1, x2, x3, x4⟩ ⟨gx1, gx2, gx3, gx4⟩ ⟨x5, x6, x7, x8⟩ ⟨gx5, gx6, gx7, gx8⟩ ρ g)
def sM_rgiv (key : Nat) : Sm := ⟨35, key, [.one (.int .i8), .agg kRg, .agg kRg], [.agg kRg, .one .bool], true⟩
def sV_rgiv (cc : Int) (a : Rg) (b : Rg) : List Dt := [.z ((bgiv cc a b).ul), .z ((bgiv cc a b).uh), .z ((bgiv cc a b).sl), .z ((bgiv cc a b).sh), .z (b2i (bgok cc a b))]
def sF_rgiv : List Dt → List Dt
  | [.z x0, .z x1, .z x2, .z x3, .z x4, .z x5, .z x6, .z x7, .z x8] => sV_rgiv x0 ⟨x1, x2, x3, x4⟩ ⟨x5, x6, x7, x8⟩
  | _ => []
def sT_rgiv : Tr :=
(.call 0 ([.bool]) (.vs 1 4 .nil) 9
(.br (.bvar 9)
(.call 0 ([.bool]) (.vs 5 4 .nil) 10
(.br (.bvar 10)
(.br (.lt (.var 0) (.lit 0))
(.call 1 (kRg) .nil 11
(.leaf (.vs 11 4 (.consb (.tt false) .nil))))
(.br (.lt (.lit 10) (.var 0))
(.call 1 (kRg) .nil 11
(.leaf (.vs 11 4 (.consb (.tt false) .nil))))
(.br (.eq (.var 0) (.lit 0))
(.call 2 (kRg ++ [.bool]) (.vs 1 8 .nil) 11
(.leaf (.vs 11 4 (.consb (.bvar 15) .nil))))
(.br (.eq (.var 0) (.lit 1))
(.call 3 ([.int .u64] ++ [.bool]) (.vs 5 4 .nil) 11
(.br (.bvar 12)
(.br (.eq (.var 1) (.var 2))
(.br (.eq (.var 1) (.var 11))
(.call 1 (kRg) .nil 13
(.leaf (.vs 13 4 (.consb (.tt false) .nil))))
(.br (.eq (.var 3) (.var 4))
(.br (.eq (.var 3) (.conv .i64 (.var 11)))
(.call 1 (kRg) .nil 13
(.leaf (.vs 13 4 (.consb (.tt false) .nil))))
(.br (.eq (.var 2) (.var 11))
(.br (.eq (.var 4) (.conv .i64 (.var 11)))
(.call 4 (kRg ++ [.bool]) (.cons (.var 1) (.cons (.bin .sub .u64 (.var 2) (.lit 1)) (.cons (.var 3) (.cons (.bin .sub .i64 (.var 4) (.lit 1)) .nil)))) 13
(.leaf (.vs 13 4 (.consb (.bvar 17) .nil))))
(.call 4 (kRg ++ [.bool]) (.cons (.var 1) (.cons (.bin .sub .u64 (.var 2) (.lit 1)) (.vs 3 2 .nil))) 13
(.leaf (.vs 13 4 (.consb (.bvar 17) .nil)))))
(.br (.eq (.var 4) (.conv .i64 (.var 11)))
(.call 4 (kRg ++ [.bool]) (.vs 1 3 (.cons (.bin .sub .i64 (.var 4) (.lit 1)) .nil)) 13
(.leaf (.vs 13 4 (.consb (.bvar 17) .nil))))
(.call 4 (kRg ++ [.bool]) (.vs 1 4 .nil) 13
(.leaf (.vs 13 4 (.consb (.bvar 17) .nil)))))))
(.br (.eq (.var 2) (.var 11))
(.br (.eq (.var 3) (.conv .i64 (.var 11)))
(.call 4 (kRg ++ [.bool]) (.cons (.var 1) (.cons (.bin .sub .u64 (.var 2) (.lit 1)) (.cons (.bin .add .i64 (.var 3) (.lit 1)) (.cons (.var 4) .nil)))) 13
(.leaf (.vs 13 4 (.consb (.bvar 17) .nil))))
(.br (.eq (.var 4) (.conv .i64 (.var 11)))
(.call 4 (kRg ++ [.bool]) (.cons (.var 1) (.cons (.bin .sub .u64 (.var 2) (.lit 1)) (.cons (.var 3) (.cons (.bin .sub .i64 (.var 4) (.lit 1)) .nil)))) 13
(.leaf (.vs 13 4 (.consb (.bvar 17) .nil))))
(.call 4 (kRg ++ [.bool]) (.cons (.var 1) (.cons (.bin .sub .u64 (.var 2) (.lit 1)) (.vs 3 2 .nil))) 13
(.leaf (.vs 13 4 (.consb (.bvar 17) .nil))))))
(.br (.eq (.var 3) (.conv .i64 (.var 11)))
(.call 4 (kRg ++ [.bool]) (.vs 1 2 (.cons (.bin .add .i64 (.var 3) (.lit 1)) (.cons (.var 4) .nil))) 13
(.leaf (.vs 13 4 (.consb (.bvar 17) .nil))))
(.br (.eq (.var 4) (.conv .i64 (.var 11)))
(.call 4 (kRg ++ [.bool]) (.vs 1 3 (.cons (.bin .sub .i64 (.var 4) (.lit 1)) .nil)) 13
(.leaf (.vs 13 4 (.consb (.bvar 17) .nil))))
(.call 4 (kRg ++ [.bool]) (.vs 1 4 .nil) 13
(.leaf (.vs 13 4 (.consb (.bvar 17) .nil)))))))))
(.br (.eq (.var 3) (.var 4))
(.br (.eq (.var 3) (.conv .i64 (.var 11)))
(.call 1 (kRg) .nil 13
(.leaf (.vs 13 4 (.consb (.tt false) .nil))))
(.br (.eq (.var 1) (.var 11))
(.br (.eq (.var 4) (.conv .i64 (.var 11)))
(.call 4 (kRg ++ [.bool]) (.cons (.bin .add .u64 (.var 1) (.lit 1)) (.vs 2 2 (.cons (.bin .sub .i64 (.var 4) (.lit 1)) .nil))) 13
(.leaf (.vs 13 4 (.consb (.bvar 17) .nil))))
(.call 4 (kRg ++ [.bool]) (.cons (.bin .add .u64 (.var 1) (.lit 1)) (.vs 2 3 .nil)) 13
(.leaf (.vs 13 4 (.consb (.bvar 17) .nil)))))
(.br (.eq (.var 2) (.var 11))
(.br (.eq (.var 4) (.conv .i64 (.var 11)))
(.call 4 (kRg ++ [.bool]) (.cons (.var 1) (.cons (.bin .sub .u64 (.var 2) (.lit 1)) (.cons (.var 3) (.cons (.bin .sub .i64 (.var 4) (.lit 1)) .nil)))) 13
(.leaf (.vs 13 4 (.consb (.bvar 17) .nil))))
(.call 4 (kRg ++ [.bool]) (.cons (.var 1) (.cons (.bin .sub .u64 (.var 2) (.lit 1)) (.vs 3 2 .nil))) 13
(.leaf (.vs 13 4 (.consb (.bvar 17) .nil)))))
(.br (.eq (.var 4) (.conv .i64 (.var 11)))
(.call 4 (kRg ++ [.bool]) (.vs 1 3 (.cons (.bin .sub .i64 (.var 4) (.lit 1)) .nil)) 13
(.leaf (.vs 13 4 (.consb (.bvar 17) .nil))))
(.call 4 (kRg ++ [.bool]) (.vs 1 4 .nil) 13
(.leaf (.vs 13 4 (.consb (.bvar 17) .nil))))))))
(.br (.eq (.var 1) (.var 11))
(.br (.eq (.var 3) (.conv .i64 (.var 11)))
(.call 4 (kRg ++ [.bool]) (.cons (.bin .add .u64 (.var 1) (.lit 1)) (.cons (.var 2) (.cons (.bin .add .i64 (.var 3) (.lit 1)) (.cons (.var 4) .nil)))) 13
(.leaf (.vs 13 4 (.consb (.bvar 17) .nil))))
(.br (.eq (.var 4) (.conv .i64 (.var 11)))
(.call 4 (kRg ++ [.bool]) (.cons (.bin .add .u64 (.var 1) (.lit 1)) (.vs 2 2 (.cons (.bin .sub .i64 (.var 4) (.lit 1)) .nil))) 13
(.leaf (.vs 13 4 (.consb (.bvar 17) .nil))))
(.call 4 (kRg ++ [.bool]) (.cons (.bin .add .u64 (.var 1) (.lit 1)) (.vs 2 3 .nil)) 13
(.leaf (.vs 13 4 (.consb (.bvar 17) .nil))))))
(.br (.eq (.var 2) (.var 11))
(.br (.eq (.var 3) (.conv .i64 (.var 11)))
(.call 4 (kRg ++ [.bool]) (.cons (.var 1) (.cons (.bin .sub .u64 (.var 2) (.lit 1)) (.cons (.bin .add .i64 (.var 3) (.lit 1)) (.cons (.var 4) .nil)))) 13
(.leaf (.vs 13 4 (.consb (.bvar 17) .nil))))
(.br (.eq (.var 4) (.conv .i64 (.var 11)))
(.call 4 (kRg ++ [.bool]) (.cons (.var 1) (.cons (.bin .sub .u64 (.var 2) (.lit 1)) (.cons (.var 3) (.cons (.bin .sub .i64 (.var 4) (.lit 1)) .nil)))) 13
(.leaf (.vs 13 4 (.consb (.bvar 17) .nil))))
(.call 4 (kRg ++ [.bool]) (.cons (.var 1) (.cons (.bin .sub .u64 (.var 2) (.lit 1)) (.vs 3 2 .nil))) 13
(.leaf (.vs 13 4 (.consb (.bvar 17) .nil))))))
(.br (.eq (.var 3) (.conv .i64 (.var 11)))
(.call 4 (kRg ++ [.bool]) (.vs 1 2 (.cons (.bin .add .i64 (.var 3) (.lit 1)) (.cons (.var 4) .nil))) 13
(.leaf (.vs 13 4 (.consb (.bvar 17) .nil))))
(.br (.eq (.var 4) (.conv .i64 (.var 11)))
(.call 4 (kRg ++ [.bool]) (.vs 1 3 (.cons (.bin .sub .i64 (.var 4) (.lit 1)) .nil)) 13
(.leaf (.vs 13 4 (.consb (.bvar 17) .nil))))
(.call 4 (kRg ++ [.bool]) (.vs 1 4 .nil) 13
(.leaf (.vs 13 4 (.consb (.bvar 17) .nil))))))))))
(.call 4 (kRg ++ [.bool]) (.vs 1 4 .nil) 13
(.leaf (.vs 13 4 (.consb (.bvar 17) .nil))))))
(.br (.eq (.var 0) (.lit 2))
(.br (.eq (.var 5) (.lit 18446744073709551615))
(.call 1 (kRg) .nil 11
(.leaf (.vs 11 4 (.consb (.tt false) .nil))))
(.call 4 (kRg ++ [.bool]) (.cons (.mx (.var 1) (.bin .add .u64 (.var 5) (.lit 1))) (.vs 2 3 .nil)) 11
(.leaf (.vs 11 4 (.consb (.bvar 15) .nil)))))
(.br (.eq (.var 0) (.lit 3))
(.call 4 (kRg ++ [.bool]) (.cons (.mx (.var 1) (.var 5)) (.vs 2 3 .nil)) 11
(.leaf (.vs 11 4 (.consb (.bvar 15) .nil))))
(.br (.eq (.var 0) (.lit 4))
(.br (.eq (.var 6) (.lit 0))
(.call 1 (kRg) .nil 11
(.leaf (.vs 11 4 (.consb (.tt false) .nil))))
(.call 4 (kRg ++ [.bool]) (.cons (.var 1) (.cons (.mn (.var 2) (.bin .sub .u64 (.var 6) (.lit 1))) (.vs 3 2 .nil))) 11
(.leaf (.vs 11 4 (.consb (.bvar 15) .nil)))))
(.br (.eq (.var 0) (.lit 5))
(.call 4 (kRg ++ [.bool]) (.cons (.var 1) (.cons (.mn (.var 2) (.var 6)) (.vs 3 2 .nil))) 11
(.leaf (.vs 11 4 (.consb (.bvar 15) .nil))))
(.br (.eq (.var 0) (.lit 6))
(.br (.eq (.var 7) (.lit 9223372036854775807))
(.call 1 (kRg) .nil 11
(.leaf (.vs 11 4 (.consb (.tt false) .nil))))
(.call 4 (kRg ++ [.bool]) (.vs 1 2 (.cons (.mx (.var 3) (.bin .add .i64 (.var 7) (.lit 1))) (.cons (.var 4) .nil))) 11
(.leaf (.vs 11 4 (.consb (.bvar 15) .nil)))))
(.br (.eq (.var 0) (.lit 7))
(.call 4 (kRg ++ [.bool]) (.vs 1 2 (.cons (.mx (.var 3) (.var 7)) (.cons (.var 4) .nil))) 11
(.leaf (.vs 11 4 (.consb (.bvar 15) .nil))))
(.br (.eq (.var 0) (.lit 8))
(.br (.eq (.var 8) (.lit (-9223372036854775808)))
(.call 1 (kRg) .nil 11
(.leaf (.vs 11 4 (.consb (.tt false) .nil))))
(.call 4 (kRg ++ [.bool]) (.vs 1 3 (.cons (.mn (.var 4) (.bin .sub .i64 (.var 8) (.lit 1))) .nil)) 11
(.leaf (.vs 11 4 (.consb (.bvar 15) .nil)))))
(.br (.eq (.var 0) (.lit 9))
(.call 4 (kRg ++ [.bool]) (.vs 1 3 (.cons (.mn (.var 4) (.var 8)) .nil)) 11
(.leaf (.vs 11 4 (.consb (.bvar 15) .nil))))
(.call 4 (kRg ++ [.bool]) (.vs 1 4 .nil) 11
(.leaf (.vs 11 4 (.consb (.bvar 15) .nil))))))))))))))))
(.call 1 (kRg) .nil 11
(.leaf (.vs 11 4 (.consb (.tt false) .nil))))))
(.call 1 (kRg) .nil 10
(.leaf (.vs 10 4 (.consb (.tt false) .nil))))))
def sP_rgiv : Spec := ⟨fun k => match k with | 0 => sF_rmay | 1 => sF_rall | 2 => sF_rmeet | 3 => sF_rsingle | 4 => sF_rnar | _ => fun _ => [], fun k => match k with | _ => fun _ => True⟩
set_option maxRecDepth 100000 in
theorem sR_rgiv : treeIs tys_XbO [sM_rmay 0, sM_rall 1, sM_rmeet 2, sM_rsingle 3, sM_rnar 4] [] [] 200 Tryz.f35 [.one (.int .i8), .agg kRg, .agg kRg] [.agg kRg, .one .bool] true [.int .i8, .int .u64, .int .u64, .int .i64, .int .i64, .int .u64, .int .u64, .int .i64, .int .i64] sT_rgiv := ⟨by kernel_rfl, by kernel_rfl, by kernel_rfl⟩
set_option maxRecDepth 100000 in
set_option maxHeartbeats 8000000 in
theorem sX_rgiv (cc : Int) (hcc : inK .i8 cc = true) (a : Rg) (ha : Rg.ok a) (b : Rg) (hb : Rg.ok b) (ρ : Env) (g : varsD ρ 0 [.int .i8, .int .u64, .int .u64, .int .i64, .int .i64, .int .u64, .int .u64, .int .i64, .int .i64] = [.z cc, .z a.ul, .z a.uh, .z a.sl, .z a.sh, .z b.ul, .z b.uh, .z b.sl, .z b.sh]) : sT_rgiv.asks sP_rgiv (fun ρ e => e.D ρ = sF_rgiv [.z cc, .z a.ul, .z a.uh, .z a.sl, .z a.sh, .z b.ul, .z b.uh, .z b.sl, .z b.sh]) ρ fun _ _ => False := by
  simp only [varsD, varD, List.cons.injEq, Dt.z.injEq, Dt.l.injEq, b2i_eq_iff, Nat.reduceAdd, and_true] at g
  simp only [sT_rgiv, sP_rgiv, kRg, sF_rmay, sF_rall, sF_rmeet, sF_rsingle, sF_rnar, sV_rmay, sV_rmeet, sV_rsingle, sV_rnar, sF_rgiv, sV_rgiv, Tr.asks, upd_same, okDs, okD, eqs, E.I, E.B, E.L, E.R, E.D, E.vs, dI, dB, dL, varD, varsD, List.getElem?_cons_zero, List.getElem?_cons_succ, List.cons_append, List.nil_append, Nat.zero_add, Nat.add_zero, Nat.reduceAdd, and_true, true_and, b2i_one, -eq_self, Pi.eta, Pu.eta, Rg.eta, g]
  intro e; (try simp only [e, Pi.eta, Pu.eta, Rg.eta, -eq_self]); clear e
  refine ⟨fun c0 => ?_, fun c0 => ?_⟩
  intro e; (try simp only [e, Pi.eta, Pu.eta, Rg.eta, -eq_self]); clear e
  refine ⟨fun c1 => ?_, fun c1 => ?_⟩
  refine ⟨fun c2 => ?_, fun c2 => ?_⟩
  intro e; (try simp only [e, Pi.eta, Pu.eta, Rg.eta, -eq_self]); clear e
  exact tup_Rg (gv_not (.inl (by unfold bgood; rw [c0, c1, decide_eq_false (show ¬ 0 ≤ cc from Int.not_le.2 (of_decide_eq_true c2))]; rfl))).1 (gv_not (.inl (by unfold bgood; rw [c0, c1, decide_eq_false (show ¬ 0 ≤ cc from Int.not_le.2 (of_decide_eq_true c2))]; rfl))).2
  refine ⟨fun c3 => ?_, fun c3 => ?_⟩
  intro e; (try simp only [e, Pi.eta, Pu.eta, Rg.eta, -eq_self]); clear e
  exact tup_Rg (gv_not (.inl (by unfold bgood; rw [c0, c1, decide_eq_false (show ¬ cc ≤ 10 from Int.not_le.2 (of_decide_eq_true c3))]; simp))).1 (gv_not (.inl (by unfold bgood; rw [c0, c1, decide_eq_false (show ¬ cc ≤ 10 from Int.not_le.2 (of_decide_eq_true c3))]; simp))).2
  refine ⟨fun c4 => ?_, fun c4 => ?_⟩
  intro e; (try simp only [e, Pi.eta, Pu.eta, Rg.eta, -eq_self]); clear e
  (have hcc : 0 ≤ cc ∧ cc ≤ 10 := ⟨Int.not_lt.1 (of_decide_eq_false c2), Int.not_lt.1 (of_decide_eq_false c3)⟩; have hg := gv_good c0 c1 hcc; obtain rfl := eqz c4; exact tup_Rg (gv_eq hg).1 (gv_eq hg).2)
  refine ⟨fun c5 => ?_, fun c5 => ?_⟩
  intro e; (try simp only [e, Pi.eta, Pu.eta, Rg.eta, -eq_self]); clear e
  refine ⟨fun c6 => ?_, fun c6 => ?_⟩
  refine ⟨fun c7 => ?_, fun c7 => ?_⟩
  refine ⟨fun c8 => ?_, fun c8 => ?_⟩
  intro e; (try simp only [e, Pi.eta, Pu.eta, Rg.eta, -eq_self]); clear e
  (have hcc : 0 ≤ cc ∧ cc ≤ 10 := ⟨Int.not_lt.1 (of_decide_eq_false c2), Int.not_lt.1 (of_decide_eq_false c3)⟩; have hg := gv_good c0 c1 hcc; obtain rfl := eqz c5; have hm := (bmay_iff a).1 c0; obtain ⟨⟨a0, a1⟩, ⟨a2, a3⟩, ⟨a4, a5⟩, a6, a7⟩ := Rg.wf_of ha; simp only [beq_iff_eq, beq_eq_false_iff_ne, ne_eq] at c7 c8; exact tup_Rg (gv_not (.inr ⟨by omega, gn_1 c6 (by omega)⟩)).1 (gv_not (.inr ⟨by omega, gn_1 c6 (by omega)⟩)).2)
  refine ⟨fun c9 => ?_, fun c9 => ?_⟩
  refine ⟨fun c10 => ?_, fun c10 => ?_⟩
  intro e; (try simp only [e, Pi.eta, Pu.eta, Rg.eta, -eq_self]); clear e
  (have hcc : 0 ≤ cc ∧ cc ≤ 10 := ⟨Int.not_lt.1 (of_decide_eq_false c2), Int.not_lt.1 (of_decide_eq_false c3)⟩; have hg := gv_good c0 c1 hcc; obtain rfl := eqz c5; have hm := (bmay_iff a).1 c0; obtain ⟨⟨a0, a1⟩, ⟨a2, a3⟩, ⟨a4, a5⟩, a6, a7⟩ := Rg.wf_of ha; simp only [beq_iff_eq, beq_eq_false_iff_ne, ne_eq] at c7 c8 c9 c10; exact tup_Rg (gv_not (.inr ⟨by omega, gn_1 c6 (by omega)⟩)).1 (gv_not (.inr ⟨by omega, gn_1 c6 (by omega)⟩)).2)
  refine ⟨fun c11 => ?_, fun c11 => ?_⟩
  refine ⟨fun c12 => ?_, fun c12 => ?_⟩
  intro e; (try simp only [e, Pi.eta, Pu.eta, Rg.eta, -eq_self]); clear e
  (have hcc : 0 ≤ cc ∧ cc ≤ 10 := ⟨Int.not_lt.1 (of_decide_eq_false c2), Int.not_lt.1 (of_decide_eq_false c3)⟩; have hg := gv_good c0 c1 hcc; obtain rfl := eqz c5; have hm := (bmay_iff a).1 c0; obtain ⟨⟨a0, a1⟩, ⟨a2, a3⟩, ⟨a4, a5⟩, a6, a7⟩ := Rg.wf_of ha; simp only [beq_iff_eq, beq_eq_false_iff_ne, ne_eq] at c7 c8 c9 c10 c11 c12; exact tup_Rg (gv_can (by omega) hg (gc_1 c6 (by omega) (by omega)) (gr_1 c6 (by (try simp only [add_u, sub_u, add_i, sub_i]); split <;> omega) (by (try simp only [add_u, sub_u, add_i, sub_i]); split <;> omega) (by (try simp only [add_u, sub_u, add_i, sub_i]); split <;> omega) (by (try simp only [add_u, sub_u, add_i, sub_i]); split <;> omega))).1 (gv_can (by omega) hg (gc_1 c6 (by omega) (by omega)) (gr_1 c6 (by (try simp only [add_u, sub_u, add_i, sub_i]); split <;> omega) (by (try simp only [add_u, sub_u, add_i, sub_i]); split <;> omega) (by (try simp only [add_u, sub_u, add_i, sub_i]); split <;> omega) (by (try simp only [add_u, sub_u, add_i, sub_i]); split <;> omega))).2)
  intro e; (try simp only [e, Pi.eta, Pu.eta, Rg.eta, -eq_self]); clear e
  (have hcc : 0 ≤ cc ∧ cc ≤ 10 := ⟨Int.not_lt.1 (of_decide_eq_false c2), Int.not_lt.1 (of_decide_eq_false c3)⟩; have hg := gv_good c0 c1 hcc; obtain rfl := eqz c5; have hm := (bmay_iff a).1 c0; obtain ⟨⟨a0, a1⟩, ⟨a2, a3⟩, ⟨a4, a5⟩, a6, a7⟩ := Rg.wf_of ha; simp only [beq_iff_eq, beq_eq_false_iff_ne, ne_eq] at c7 c8 c9 c10 c11 c12; exact tup_Rg (gv_can (by omega) hg (gc_1 c6 (by omega) (by omega)) (gr_1 c6 (by (try simp only [add_u, sub_u, add_i, sub_i]); split <;> omega) (by (try simp only [add_u, sub_u, add_i, sub_i]); split <;> omega) (by (try simp only [add_u, sub_u, add_i, sub_i]); split <;> omega) (by (try simp only [add_u, sub_u, add_i, sub_i]); split <;> omega))).1 (gv_can (by omega) hg (gc_1 c6 (by omega) (by omega)) (gr_1 c6 (by (try simp only [add_u, sub_u, add_i, sub_i]); split <;> omega) (by (try simp only [add_u, sub_u, add_i, sub_i]); split <;> omega) (by (try simp only [add_u, sub_u, add_i, sub_i]); split <;> omega) (by (try simp only [add_u, sub_u, add_i, sub_i]); split <;> omega))).2)
  refine ⟨fun c13 => ?_, fun c13 => ?_⟩
  intro e; (try simp only [e, Pi.eta, Pu.eta, Rg.eta, -eq_self]); clear e
  (have hcc : 0 ≤ cc ∧ cc ≤ 10 := ⟨Int.not_lt.1 (of_decide_eq_false c2), Int.not_lt.1 (of_decide_eq_false c3)⟩; have hg := gv_good c0 c1 hcc; obtain rfl := eqz c5; have hm := (bmay_iff a).1 c0; obtain ⟨⟨a0, a1⟩, ⟨a2, a3⟩, ⟨a4, a5⟩, a6, a7⟩ := Rg.wf_of ha; simp only [beq_iff_eq, beq_eq_false_iff_ne, ne_eq] at c7 c8 c9 c10 c11 c13; exact tup_Rg (gv_can (by omega) hg (gc_1 c6 (by omega) (by omega)) (gr_1 c6 (by (try simp only [add_u, sub_u, add_i, sub_i]); split <;> omega) (by (try simp only [add_u, sub_u, add_i, sub_i]); split <;> omega) (by (try simp only [add_u, sub_u, add_i, sub_i]); split <;> omega) (by (try simp only [add_u, sub_u, add_i, sub_i]); split <;> omega))).1 (gv_can (by omega) hg (gc_1 c6 (by omega) (by omega)) (gr_1 c6 (by (try simp only [add_u, sub_u, add_i, sub_i]); split <;> omega) (by (try simp only [add_u, sub_u, add_i, sub_i]); split <;> omega) (by (try simp only [add_u, sub_u, add_i, sub_i]); split <;> omega) (by (try simp only [add_u, sub_u, add_i, sub_i]); split <;> omega))).2)
  intro e; (try simp only [e, Pi.eta, Pu.eta, Rg.eta, -eq_self]); clear e
  (have hcc : 0 ≤ cc ∧ cc ≤ 10 := ⟨Int.not_lt.1 (of_decide_eq_false c2), Int.not_lt.1 (of_decide_eq_false c3)⟩; have hg := gv_good c0 c1 hcc; obtain rfl := eqz c5; have hm := (bmay_iff a).1 c0; obtain ⟨⟨a0, a1⟩, ⟨a2, a3⟩, ⟨a4, a5⟩, a6, a7⟩ := Rg.wf_of ha; simp only [beq_iff_eq, beq_eq_false_iff_ne, ne_eq] at c7 c8 c9 c10 c11 c13; exact tup_Rg (gv_can (by omega) hg (gc_1 c6 (by omega) (by omega)) (gr_1 c6 (by (try simp only [add_u, sub_u, add_i, sub_i]); split <;> omega) (by (try simp only [add_u, sub_u, add_i, sub_i]); split <;> omega) (by (try simp only [add_u, sub_u, add_i, sub_i]); split <;> omega) (by (try simp only [add_u, sub_u, add_i, sub_i]); split <;> omega))).1 (gv_can (by omega) hg (gc_1 c6 (by omega) (by omega)) (gr_1 c6 (by (try simp only [add_u, sub_u, add_i, sub_i]); split <;> omega) (by (try simp only [add_u, sub_u, add_i, sub_i]); split <;> omega) (by (try simp only [add_u, sub_u, add_i, sub_i]); split <;> omega) (by (try simp only [add_u, sub_u, add_i, sub_i]); split <;> omega))).2)
  refine ⟨fun c14 => ?_, fun c14 => ?_⟩
  refine ⟨fun c15 => ?_, fun c15 => ?_⟩
  intro e; (try simp only [e, Pi.eta, Pu.eta, Rg.eta, -eq_self]); clear e
  (have hcc : 0 ≤ cc ∧ cc ≤ 10 := ⟨Int.not_lt.1 (of_decide_eq_false c2), Int.not_lt.1 (of_decide_eq_false c3)⟩; have hg := gv_good c0 c1 hcc; obtain rfl := eqz c5; have hm := (bmay_iff a).1 c0; obtain ⟨⟨a0, a1⟩, ⟨a2, a3⟩, ⟨a4, a5⟩, a6, a7⟩ := Rg.wf_of ha; simp only [beq_iff_eq, beq_eq_false_iff_ne, ne_eq] at c7 c8 c9 c14 c15; exact tup_Rg (gv_can (by omega) hg (gc_1 c6 (by omega) (by omega)) (gr_1 c6 (by (try simp only [add_u, sub_u, add_i, sub_i]); split <;> omega) (by (try simp only [add_u, sub_u, add_i, sub_i]); split <;> omega) (by (try simp only [add_u, sub_u, add_i, sub_i]); split <;> omega) (by (try simp only [add_u, sub_u, add_i, sub_i]); split <;> omega))).1 (gv_can (by omega) hg (gc_1 c6 (by omega) (by omega)) (gr_1 c6 (by (try simp only [add_u, sub_u, add_i, sub_i]); split <;> omega) (by (try simp only [add_u, sub_u, add_i, sub_i]); split <;> omega) (by (try simp only [add_u, sub_u, add_i, sub_i]); split <;> omega) (by (try simp only [add_u, sub_u, add_i, sub_i]); split <;> omega))).2)
  refine ⟨fun c16 => ?_, fun c16 => ?_⟩
  intro e; (try simp only [e, Pi.eta, Pu.eta, Rg.eta, -eq_self]); clear e
  (have hcc : 0 ≤ cc ∧ cc ≤ 10 := ⟨Int.not_lt.1 (of_decide_eq_false c2), Int.not_lt.1 (of_decide_eq_false c3)⟩; have hg := gv_good c0 c1 hcc; obtain rfl := eqz c5; have hm := (bmay_iff a).1 c0; obtain ⟨⟨a0, a1⟩, ⟨a2, a3⟩, ⟨a4, a5⟩, a6, a7⟩ := Rg.wf_of ha; simp only [beq_iff_eq, beq_eq_false_iff_ne, ne_eq] at c7 c8 c9 c14 c15 c16; exact tup_Rg (gv_can (by omega) hg (gc_1 c6 (by omega) (by omega)) (gr_1 c6 (by (try simp only [add_u, sub_u, add_i, sub_i]); split <;> omega) (by (try simp only [add_u, sub_u, add_i, sub_i]); split <;> omega) (by (try simp only [add_u, sub_u, add_i, sub_i]); split <;> omega) (by (try simp only [add_u, sub_u, add_i, sub_i]); split <;> omega))).1 (gv_can (by omega) hg (gc_1 c6 (by omega) (by omega)) (gr_1 c6 (by (try simp only [add_u, sub_u, add_i, sub_i]); split <;> omega) (by (try simp only [add_u, sub_u, add_i, sub_i]); split <;> omega) (by (try simp only [add_u, sub_u, add_i, sub_i]); split <;> omega) (by (try simp only [add_u, sub_u, add_i, sub_i]); split <;> omega))).2)
  intro e; (try simp only [e, Pi.eta, Pu.eta, Rg.eta, -eq_self]); clear e
  (have hcc : 0 ≤ cc ∧ cc ≤ 10 := ⟨Int.not_lt.1 (of_decide_eq_false c2), Int.not_lt.1 (of_decide_eq_false c3)⟩; have hg := gv_good c0 c1 hcc; obtain rfl := eqz c5; have hm := (bmay_iff a).1 c0; obtain ⟨⟨a0, a1⟩, ⟨a2, a3⟩, ⟨a4, a5⟩, a6, a7⟩ := Rg.wf_of ha; simp only [beq_iff_eq, beq_eq_false_iff_ne, ne_eq] at c7 c8 c9 c14 c15 c16; exact tup_Rg (gv_can (by omega) hg (gc_1 c6 (by omega) (by omega)) (gr_1 c6 (by (try simp only [add_u, sub_u, add_i, sub_i]); split <;> omega) (by (try simp only [add_u, sub_u, add_i, sub_i]); split <;> omega) (by (try simp only [add_u, sub_u, add_i, sub_i]); split <;> omega) (by (try simp only [add_u, sub_u, add_i, sub_i]); split <;> omega))).1 (gv_can (by omega) hg (gc_1 c6 (by omega) (by omega)) (gr_1 c6 (by (try simp only [add_u, sub_u, add_i, sub_i]); split <;> omega) (by (try simp only [add_u, sub_u, add_i, sub_i]); split <;> omega) (by (try simp only [add_u, sub_u, add_i, sub_i]); split <;> omega) (by (try simp only [add_u, sub_u, add_i, sub_i]); split <;> omega))).2)
  refine ⟨fun c17 => ?_, fun c17 => ?_⟩
  intro e; (try simp only [e, Pi.eta, Pu.eta, Rg.eta, -eq_self]); clear e
  (have hcc : 0 ≤ cc ∧ cc ≤ 10 := ⟨Int.not_lt.1 (of_decide_eq_false c2), Int.not_lt.1 (of_decide_eq_false c3)⟩; have hg := gv_good c0 c1 hcc; obtain rfl := eqz c5; have hm := (bmay_iff a).1 c0; obtain ⟨⟨a0, a1⟩, ⟨a2, a3⟩, ⟨a4, a5⟩, a6, a7⟩ := Rg.wf_of ha; simp only [beq_iff_eq, beq_eq_false_iff_ne, ne_eq] at c7 c8 c9 c14 c17; exact tup_Rg (gv_can (by omega) hg (gc_1 c6 (by omega) (by omega)) (gr_1 c6 (by (try simp only [add_u, sub_u, add_i, sub_i]); split <;> omega) (by (try simp only [add_u, sub_u, add_i, sub_i]); split <;> omega) (by (try simp only [add_u, sub_u, add_i, sub_i]); split <;> omega) (by (try simp only [add_u, sub_u, add_i, sub_i]); split <;> omega))).1 (gv_can (by omega) hg (gc_1 c6 (by omega) (by omega)) (gr_1 c6 (by (try simp only [add_u, sub_u, add_i, sub_i]); split <;> omega) (by (try simp only [add_u, sub_u, add_i, sub_i]); split <;> omega) (by (try simp only [add_u, sub_u, add_i, sub_i]); split <;> omega) (by (try simp only [add_u, sub_u, add_i, sub_i]); split <;> omega))).2)
  refine ⟨fun c18 => ?_, fun c18 => ?_⟩
  intro e; (try simp only [e, Pi.eta, Pu.eta, Rg.eta, -eq_self]); clear e
  (have hcc : 0 ≤ cc ∧ cc ≤ 10 := ⟨Int.not_lt.1 (of_decide_eq_false c2), Int.not_lt.1 (of_decide_eq_false c3)⟩; have hg := gv_good c0 c1 hcc; obtain rfl := eqz c5; have hm := (bmay_iff a).1 c0; obtain ⟨⟨a0, a1⟩, ⟨a2, a3⟩, ⟨a4, a5⟩, a6, a7⟩ := Rg.wf_of ha; simp only [beq_iff_eq, beq_eq_false_iff_ne, ne_eq] at c7 c8 c9 c14 c17 c18; exact tup_Rg (gv_can (by omega) hg (gc_1 c6 (by omega) (by omega)) (gr_1 c6 (by (try simp only [add_u, sub_u, add_i, sub_i]); split <;> omega) (by (try simp only [add_u, sub_u, add_i, sub_i]); split <;> omega) (by (try simp only [add_u, sub_u, add_i, sub_i]); split <;> omega) (by (try simp only [add_u, sub_u, add_i, sub_i]); split <;> omega))).1 (gv_can (by omega) hg (gc_1 c6 (by omega) (by omega)) (gr_1 c6 (by (try simp only [add_u, sub_u, add_i, sub_i]); split <;> omega) (by (try simp only [add_u, sub_u, add_i, sub_i]); split <;> omega) (by (try simp only [add_u, sub_u, add_i, sub_i]); split <;> omega) (by (try simp only [add_u, sub_u, add_i, sub_i]); split <;> omega))).2)
  intro e; (try simp only [e, Pi.eta, Pu.eta, Rg.eta, -eq_self]); clear e
  (have hcc : 0 ≤ cc ∧ cc ≤ 10 := ⟨Int.not_lt.1 (of_decide_eq_false c2), Int.not_lt.1 (of_decide_eq_false c3)⟩; have hg := gv_good c0 c1 hcc; obtain rfl := eqz c5; have hm := (bmay_iff a).1 c0; obtain ⟨⟨a0, a1⟩, ⟨a2, a3⟩, ⟨a4, a5⟩, a6, a7⟩ := Rg.wf_of ha; simp only [beq_iff_eq, beq_eq_false_iff_ne, ne_eq] at c7 c8 c9 c14 c17 c18; exact tup_Rg (gv_can (by omega) hg (gc_1 c6 (by omega) (by omega)) (gr_1 c6 (by (try simp only [add_u, sub_u, add_i, sub_i]); split <;> omega) (by (try simp only [add_u, sub_u, add_i, sub_i]); split <;> omega) (by (try simp only [add_u, sub_u, add_i, sub_i]); split <;> omega) (by (try simp only [add_u, sub_u, add_i, sub_i]); split <;> omega))).1 (gv_can (by omega) hg (gc_1 c6 (by omega) (by omega)) (gr_1 c6 (by (try simp only [add_u, sub_u, add_i, sub_i]); split <;> omega) (by (try simp only [add_u, sub_u, add_i, sub_i]); split <;> omega) (by (try simp only [add_u, sub_u, add_i, sub_i]); split <;> omega) (by (try simp only [add_u, sub_u, add_i, sub_i]); split <;> omega))).2)
  refine ⟨fun c19 => ?_, fun c19 => ?_⟩
  refine ⟨fun c20 => ?_, fun c20 => ?_⟩
  intro e; (try simp only [e, Pi.eta, Pu.eta, Rg.eta, -eq_self]); clear e
  (have hcc : 0 ≤ cc ∧ cc ≤ 10 := ⟨Int.not_lt.1 (of_decide_eq_false c2), Int.not_lt.1 (of_decide_eq_false c3)⟩; have hg := gv_good c0 c1 hcc; obtain rfl := eqz c5; have hm := (bmay_iff a).1 c0; obtain ⟨⟨a0, a1⟩, ⟨a2, a3⟩, ⟨a4, a5⟩, a6, a7⟩ := Rg.wf_of ha; simp only [beq_iff_eq, beq_eq_false_iff_ne, ne_eq] at c7 c19 c20; exact tup_Rg (gv_not (.inr ⟨by omega, gn_1 c6 (by omega)⟩)).1 (gv_not (.inr ⟨by omega, gn_1 c6 (by omega)⟩)).2)
  refine ⟨fun c21 => ?_, fun c21 => ?_⟩
  refine ⟨fun c22 => ?_, fun c22 => ?_⟩
  intro e; (try simp only [e, Pi.eta, Pu.eta, Rg.eta, -eq_self]); clear e
  (have hcc : 0 ≤ cc ∧ cc ≤ 10 := ⟨Int.not_lt.1 (of_decide_eq_false c2), Int.not_lt.1 (of_decide_eq_false c3)⟩; have hg := gv_good c0 c1 hcc; obtain rfl := eqz c5; have hm := (bmay_iff a).1 c0; obtain ⟨⟨a0, a1⟩, ⟨a2, a3⟩, ⟨a4, a5⟩, a6, a7⟩ := Rg.wf_of ha; simp only [beq_iff_eq, beq_eq_false_iff_ne, ne_eq] at c7 c19 c20 c21 c22; exact tup_Rg (gv_can (by omega) hg (gc_1 c6 (by omega) (by omega)) (gr_1 c6 (by (try simp only [add_u, sub_u, add_i, sub_i]); split <;> omega) (by (try simp only [add_u, sub_u, add_i, sub_i]); split <;> omega) (by (try simp only [add_u, sub_u, add_i, sub_i]); split <;> omega) (by (try simp only [add_u, sub_u, add_i, sub_i]); split <;> omega))).1 (gv_can (by omega) hg (gc_1 c6 (by omega) (by omega)) (gr_1 c6 (by (try simp only [add_u, sub_u, add_i, sub_i]); split <;> omega) (by (try simp only [add_u, sub_u, add_i, sub_i]); split <;> omega) (by (try simp only [add_u, sub_u, add_i, sub_i]); split <;> omega) (by (try simp only [add_u, sub_u, add_i, sub_i]); split <;> omega))).2)
  intro e; (try simp only [e, Pi.eta, Pu.eta, Rg.eta, -eq_self]); clear e
  (have hcc : 0 ≤ cc ∧ cc ≤ 10 := ⟨Int.not_lt.1 (of_decide_eq_false c2), Int.not_lt.1 (of_decide_eq_false c3)⟩; have hg := gv_good c0 c1 hcc; obtain rfl := eqz c5; have hm := (bmay_iff a).1 c0; obtain ⟨⟨a0, a1⟩, ⟨a2, a3⟩, ⟨a4, a5⟩, a6, a7⟩ := Rg.wf_of ha; simp only [beq_iff_eq, beq_eq_false_iff_ne, ne_eq] at c7 c19 c20 c21 c22; exact tup_Rg (gv_can (by omega) hg (gc_1 c6 (by omega) (by omega)) (gr_1 c6 (by (try simp only [add_u, sub_u, add_i, sub_i]); split <;> omega) (by (try simp only [add_u, sub_u, add_i, sub_i]); split <;> omega) (by (try simp only [add_u, sub_u, add_i, sub_i]); split <;> omega) (by (try simp only [add_u, sub_u, add_i, sub_i]); split <;> omega))).1 (gv_can (by omega) hg (gc_1 c6 (by omega) (by omega)) (gr_1 c6 (by (try simp only [add_u, sub_u, add_i, sub_i]); split <;> omega) (by (try simp only [add_u, sub_u, add_i, sub_i]); split <;> omega) (by (try simp only [add_u, sub_u, add_i, sub_i]); split <;> omega) (by (try simp only [add_u, sub_u, add_i, sub_i]); split <;> omega))).2)
  refine ⟨fun c23 => ?_, fun c23 => ?_⟩
  refine ⟨fun c24 => ?_, fun c24 => ?_⟩
  intro e; (try simp only [e, Pi.eta, Pu.eta, Rg.eta, -eq_self]); clear e
  (have hcc : 0 ≤ cc ∧ cc ≤ 10 := ⟨Int.not_lt.1 (of_decide_eq_false c2), Int.not_lt.1 (of_decide_eq_false c3)⟩; have hg := gv_good c0 c1 hcc; obtain rfl := eqz c5; have hm := (bmay_iff a).1 c0; obtain ⟨⟨a0, a1⟩, ⟨a2, a3⟩, ⟨a4, a5⟩, a6, a7⟩ := Rg.wf_of ha; simp only [beq_iff_eq, beq_eq_false_iff_ne, ne_eq] at c7 c19 c20 c21 c23 c24; exact tup_Rg (gv_can (by omega) hg (gc_1 c6 (by omega) (by omega)) (gr_1 c6 (by (try simp only [add_u, sub_u, add_i, sub_i]); split <;> omega) (by (try simp only [add_u, sub_u, add_i, sub_i]); split <;> omega) (by (try simp only [add_u, sub_u, add_i, sub_i]); split <;> omega) (by (try simp only [add_u, sub_u, add_i, sub_i]); split <;> omega))).1 (gv_can (by omega) hg (gc_1 c6 (by omega) (by omega)) (gr_1 c6 (by (try simp only [add_u, sub_u, add_i, sub_i]); split <;> omega) (by (try simp only [add_u, sub_u, add_i, sub_i]); split <;> omega) (by (try simp only [add_u, sub_u, add_i, sub_i]); split <;> omega) (by (try simp only [add_u, sub_u, add_i, sub_i]); split <;> omega))).2)
  intro e; (try simp only [e, Pi.eta, Pu.eta, Rg.eta, -eq_self]); clear e
  (have hcc : 0 ≤ cc ∧ cc ≤ 10 := ⟨Int.not_lt.1 (of_decide_eq_false c2), Int.not_lt.1 (of_decide_eq_false c3)⟩; have hg := gv_good c0 c1 hcc; obtain rfl := eqz c5; have hm := (bmay_iff a).1 c0; obtain ⟨⟨a0, a1⟩, ⟨a2, a3⟩, ⟨a4, a5⟩, a6, a7⟩ := Rg.wf_of ha; simp only [beq_iff_eq, beq_eq_false_iff_ne, ne_eq] at c7 c19 c20 c21 c23 c24; exact tup_Rg (gv_can (by omega) hg (gc_1 c6 (by omega) (by omega)) (gr_1 c6 (by (try simp only [add_u, sub_u, add_i, sub_i]); split <;> omega) (by (try simp only [add_u, sub_u, add_i, sub_i]); split <;> omega) (by (try simp only [add_u, sub_u, add_i, sub_i]); split <;> omega) (by (try simp only [add_u, sub_u, add_i, sub_i]); split <;> omega))).1 (gv_can (by omega) hg (gc_1 c6 (by omega) (by omega)) (gr_1 c6 (by (try simp only [add_u, sub_u, add_i, sub_i]); split <;> omega) (by (try simp only [add_u, sub_u, add_i, sub_i]); split <;> omega) (by (try simp only [add_u, sub_u, add_i, sub_i]); split <;> omega) (by (try simp only [add_u, sub_u, add_i, sub_i]); split <;> omega))).2)
  refine ⟨fun c25 => ?_, fun c25 => ?_⟩
  intro e; (try simp only [e, Pi.eta, Pu.eta, Rg.eta, -eq_self]); clear e
  (have hcc : 0 ≤ cc ∧ cc ≤ 10 := ⟨Int.not_lt.1 (of_decide_eq_false c2), Int.not_lt.1 (of_decide_eq_false c3)⟩; have hg := gv_good c0 c1 hcc; obtain rfl := eqz c5; have hm := (bmay_iff a).1 c0; obtain ⟨⟨a0, a1⟩, ⟨a2, a3⟩, ⟨a4, a5⟩, a6, a7⟩ := Rg.wf_of ha; simp only [beq_iff_eq, beq_eq_false_iff_ne, ne_eq] at c7 c19 c20 c21 c23 c25; exact tup_Rg (gv_can (by omega) hg (gc_1 c6 (by omega) (by omega)) (gr_1 c6 (by (try simp only [add_u, sub_u, add_i, sub_i]); split <;> omega) (by (try simp only [add_u, sub_u, add_i, sub_i]); split <;> omega) (by (try simp only [add_u, sub_u, add_i, sub_i]); split <;> omega) (by (try simp only [add_u, sub_u, add_i, sub_i]); split <;> omega))).1 (gv_can (by omega) hg (gc_1 c6 (by omega) (by omega)) (gr_1 c6 (by (try simp only [add_u, sub_u, add_i, sub_i]); split <;> omega) (by (try simp only [add_u, sub_u, add_i, sub_i]); split <;> omega) (by (try simp only [add_u, sub_u, add_i, sub_i]); split <;> omega) (by (try simp only [add_u, sub_u, add_i, sub_i]); split <;> omega))).2)
  intro e; (try simp only [e, Pi.eta, Pu.eta, Rg.eta, -eq_self]); clear e
  (have hcc : 0 ≤ cc ∧ cc ≤ 10 := ⟨Int.not_lt.1 (of_decide_eq_false c2), Int.not_lt.1 (of_decide_eq_false c3)⟩; have hg := gv_good c0 c1 hcc; obtain rfl := eqz c5; have hm := (bmay_iff a).1 c0; obtain ⟨⟨a0, a1⟩, ⟨a2, a3⟩, ⟨a4, a5⟩, a6, a7⟩ := Rg.wf_of ha; simp only [beq_iff_eq, beq_eq_false_iff_ne, ne_eq] at c7 c19 c20 c21 c23 c25; exact tup_Rg (gv_can (by omega) hg (gc_1 c6 (by omega) (by omega)) (gr_1 c6 (by (try simp only [add_u, sub_u, add_i, sub_i]); split <;> omega) (by (try simp only [add_u, sub_u, add_i, sub_i]); split <;> omega) (by (try simp only [add_u, sub_u, add_i, sub_i]); split <;> omega) (by (try simp only [add_u, sub_u, add_i, sub_i]); split <;> omega))).1 (gv_can (by omega) hg (gc_1 c6 (by omega) (by omega)) (gr_1 c6 (by (try simp only [add_u, sub_u, add_i, sub_i]); split <;> omega) (by (try simp only [add_u, sub_u, add_i, sub_i]); split <;> omega) (by (try simp only [add_u, sub_u, add_i, sub_i]); split <;> omega) (by (try simp only [add_u, sub_u, add_i, sub_i]); split <;> omega))).2)
  refine ⟨fun c26 => ?_, fun c26 => ?_⟩
  refine ⟨fun c27 => ?_, fun c27 => ?_⟩
  intro e; (try simp only [e, Pi.eta, Pu.eta, Rg.eta, -eq_self]); clear e
  (have hcc : 0 ≤ cc ∧ cc ≤ 10 := ⟨Int.not_lt.1 (of_decide_eq_false c2), Int.not_lt.1 (of_decide_eq_false c3)⟩; have hg := gv_good c0 c1 hcc; obtain rfl := eqz c5; have hm := (bmay_iff a).1 c0; obtain ⟨⟨a0, a1⟩, ⟨a2, a3⟩, ⟨a4, a5⟩, a6, a7⟩ := Rg.wf_of ha; simp only [beq_iff_eq, beq_eq_false_iff_ne, ne_eq] at c7 c19 c26 c27; exact tup_Rg (gv_can (by omega) hg (gc_1 c6 (by omega) (by omega)) (gr_1 c6 (by (try simp only [add_u, sub_u, add_i, sub_i]); split <;> omega) (by (try simp only [add_u, sub_u, add_i, sub_i]); split <;> omega) (by (try simp only [add_u, sub_u, add_i, sub_i]); split <;> omega) (by (try simp only [add_u, sub_u, add_i, sub_i]); split <;> omega))).1 (gv_can (by omega) hg (gc_1 c6 (by omega) (by omega)) (gr_1 c6 (by (try simp only [add_u, sub_u, add_i, sub_i]); split <;> omega) (by (try simp only [add_u, sub_u, add_i, sub_i]); split <;> omega) (by (try simp only [add_u, sub_u, add_i, sub_i]); split <;> omega) (by (try simp only [add_u, sub_u, add_i, sub_i]); split <;> omega))).2)
  refine ⟨fun c28 => ?_, fun c28 => ?_⟩
  intro e; (try simp only [e, Pi.eta, Pu.eta, Rg.eta, -eq_self]); clear e
  (have hcc : 0 ≤ cc ∧ cc ≤ 10 := ⟨Int.not_lt.1 (of_decide_eq_false c2), Int.not_lt.1 (of_decide_eq_false c3)⟩; have hg := gv_good c0 c1 hcc; obtain rfl := eqz c5; have hm := (bmay_iff a).1 c0; obtain ⟨⟨a0, a1⟩, ⟨a2, a3⟩, ⟨a4, a5⟩, a6, a7⟩ := Rg.wf_of ha; simp only [beq_iff_eq, beq_eq_false_iff_ne, ne_eq] at c7 c19 c26 c27 c28; exact tup_Rg (gv_can (by omega) hg (gc_1 c6 (by omega) (by omega)) (gr_1 c6 (by (try simp only [add_u, sub_u, add_i, sub_i]); split <;> omega) (by (try simp only [add_u, sub_u, add_i, sub_i]); split <;> omega) (by (try simp only [add_u, sub_u, add_i, sub_i]); split <;> omega) (by (try simp only [add_u, sub_u, add_i, sub_i]); split <;> omega))).1 (gv_can (by omega) hg (gc_1 c6 (by omega) (by omega)) (gr_1 c6 (by (try simp only [add_u, sub_u, add_i, sub_i]); split <;> omega) (by (try simp only [add_u, sub_u, add_i, sub_i]); split <;> omega) (by (try simp only [add_u, sub_u, add_i, sub_i]); split <;> omega) (by (try simp only [add_u, sub_u, add_i, sub_i]); split <;> omega))).2)
  intro e; (try simp only [e, Pi.eta, Pu.eta, Rg.eta, -eq_self]); clear e
  (have hcc : 0 ≤ cc ∧ cc ≤ 10 := ⟨Int.not_lt.1 (of_decide_eq_false c2), Int.not_lt.1 (of_decide_eq_false c3)⟩; have hg := gv_good c0 c1 hcc; obtain rfl := eqz c5; have hm := (bmay_iff a).1 c0; obtain ⟨⟨a0, a1⟩, ⟨a2, a3⟩, ⟨a4, a5⟩, a6, a7⟩ := Rg.wf_of ha; simp only [beq_iff_eq, beq_eq_false_iff_ne, ne_eq] at c7 c19 c26 c27 c28; exact tup_Rg (gv_can (by omega) hg (gc_1 c6 (by omega) (by omega)) (gr_1 c6 (by (try simp only [add_u, sub_u, add_i, sub_i]); split <;> omega) (by (try simp only [add_u, sub_u, add_i, sub_i]); split <;> omega) (by (try simp only [add_u, sub_u, add_i, sub_i]); split <;> omega) (by (try simp only [add_u, sub_u, add_i, sub_i]); split <;> omega))).1 (gv_can (by omega) hg (gc_1 c6 (by omega) (by omega)) (gr_1 c6 (by (try simp only [add_u, sub_u, add_i, sub_i]); split <;> omega) (by (try simp only [add_u, sub_u, add_i, sub_i]); split <;> omega) (by (try simp only [add_u, sub_u, add_i, sub_i]); split <;> omega) (by (try simp only [add_u, sub_u, add_i, sub_i]); split <;> omega))).2)
  refine ⟨fun c29 => ?_, fun c29 => ?_⟩
  refine ⟨fun c30 => ?_, fun c30 => ?_⟩
  intro e; (try simp only [e, Pi.eta, Pu.eta, Rg.eta, -eq_self]); clear e
  (have hcc : 0 ≤ cc ∧ cc ≤ 10 := ⟨Int.not_lt.1 (of_decide_eq_false c2), Int.not_lt.1 (of_decide_eq_false c3)⟩; have hg := gv_good c0 c1 hcc; obtain rfl := eqz c5; have hm := (bmay_iff a).1 c0; obtain ⟨⟨a0, a1⟩, ⟨a2, a3⟩, ⟨a4, a5⟩, a6, a7⟩ := Rg.wf_of ha; simp only [beq_iff_eq, beq_eq_false_iff_ne, ne_eq] at c7 c19 c26 c29 c30; exact tup_Rg (gv_can (by omega) hg (gc_1 c6 (by omega) (by omega)) (gr_1 c6 (by (try simp only [add_u, sub_u, add_i, sub_i]); split <;> omega) (by (try simp only [add_u, sub_u, add_i, sub_i]); split <;> omega) (by (try simp only [add_u, sub_u, add_i, sub_i]); split <;> omega) (by (try simp only [add_u, sub_u, add_i, sub_i]); split <;> omega))).1 (gv_can (by omega) hg (gc_1 c6 (by omega) (by omega)) (gr_1 c6 (by (try simp only [add_u, sub_u, add_i, sub_i]); split <;> omega) (by (try simp only [add_u, sub_u, add_i, sub_i]); split <;> omega) (by (try simp only [add_u, sub_u, add_i, sub_i]); split <;> omega) (by (try simp only [add_u, sub_u, add_i, sub_i]); split <;> omega))).2)
  refine ⟨fun c31 => ?_, fun c31 => ?_⟩
  intro e; (try simp only [e, Pi.eta, Pu.eta, Rg.eta, -eq_self]); clear e
  (have hcc : 0 ≤ cc ∧ cc ≤ 10 := ⟨Int.not_lt.1 (of_decide_eq_false c2), Int.not_lt.1 (of_decide_eq_false c3)⟩; have hg := gv_good c0 c1 hcc; obtain rfl := eqz c5; have hm := (bmay_iff a).1 c0; obtain ⟨⟨a0, a1⟩, ⟨a2, a3⟩, ⟨a4, a5⟩, a6, a7⟩ := Rg.wf_of ha; simp only [beq_iff_eq, beq_eq_false_iff_ne, ne_eq] at c7 c19 c26 c29 c30 c31; exact tup_Rg (gv_can (by omega) hg (gc_1 c6 (by omega) (by omega)) (gr_1 c6 (by (try simp only [add_u, sub_u, add_i, sub_i]); split <;> omega) (by (try simp only [add_u, sub_u, add_i, sub_i]); split <;> omega) (by (try simp only [add_u, sub_u, add_i, sub_i]); split <;> omega) (by (try simp only [add_u, sub_u, add_i, sub_i]); split <;> omega))).1 (gv_can (by omega) hg (gc_1 c6 (by omega) (by omega)) (gr_1 c6 (by (try simp only [add_u, sub_u, add_i, sub_i]); split <;> omega) (by (try simp only [add_u, sub_u, add_i, sub_i]); split <;> omega) (by (try simp only [add_u, sub_u, add_i, sub_i]); split <;> omega) (by (try simp only [add_u, sub_u, add_i, sub_i]); split <;> omega))).2)
  intro e; (try simp only [e, Pi.eta, Pu.eta, Rg.eta, -eq_self]); clear e
  (have hcc : 0 ≤ cc ∧ cc ≤ 10 := ⟨Int.not_lt.1 (of_decide_eq_false c2), Int.not_lt.1 (of_decide_eq_false c3)⟩; have hg := gv_good c0 c1 hcc; obtain rfl := eqz c5; have hm := (bmay_iff a).1 c0; obtain ⟨⟨a0, a1⟩, ⟨a2, a3⟩, ⟨a4, a5⟩, a6, a7⟩ := Rg.wf_of ha; simp only [beq_iff_eq, beq_eq_false_iff_ne, ne_eq] at c7 c19 c26 c29 c30 c31; exact tup_Rg (gv_can (by omega) hg (gc_1 c6 (by omega) (by omega)) (gr_1 c6 (by (try simp only [add_u, sub_u, add_i, sub_i]); split <;> omega) (by (try simp only [add_u, sub_u, add_i, sub_i]); split <;> omega) (by (try simp only [add_u, sub_u, add_i, sub_i]); split <;> omega) (by (try simp only [add_u, sub_u, add_i, sub_i]); split <;> omega))).1 (gv_can (by omega) hg (gc_1 c6 (by omega) (by omega)) (gr_1 c6 (by (try simp only [add_u, sub_u, add_i, sub_i]); split <;> omega) (by (try simp only [add_u, sub_u, add_i, sub_i]); split <;> omega) (by (try simp only [add_u, sub_u, add_i, sub_i]); split <;> omega) (by (try simp only [add_u, sub_u, add_i, sub_i]); split <;> omega))).2)
  refine ⟨fun c32 => ?_, fun c32 => ?_⟩
  intro e; (try simp only [e, Pi.eta, Pu.eta, Rg.eta, -eq_self]); clear e
  (have hcc : 0 ≤ cc ∧ cc ≤ 10 := ⟨Int.not_lt.1 (of_decide_eq_false c2), Int.not_lt.1 (of_decide_eq_false c3)⟩; have hg := gv_good c0 c1 hcc; obtain rfl := eqz c5; have hm := (bmay_iff a).1 c0; obtain ⟨⟨a0, a1⟩, ⟨a2, a3⟩, ⟨a4, a5⟩, a6, a7⟩ := Rg.wf_of ha; simp only [beq_iff_eq, beq_eq_false_iff_ne, ne_eq] at c7 c19 c26 c29 c32; exact tup_Rg (gv_can (by omega) hg (gc_1 c6 (by omega) (by omega)) (gr_1 c6 (by (try simp only [add_u, sub_u, add_i, sub_i]); split <;> omega) (by (try simp only [add_u, sub_u, add_i, sub_i]); split <;> omega) (by (try simp only [add_u, sub_u, add_i, sub_i]); split <;> omega) (by (try simp only [add_u, sub_u, add_i, sub_i]); split <;> omega))).1 (gv_can (by omega) hg (gc_1 c6 (by omega) (by omega)) (gr_1 c6 (by (try simp only [add_u, sub_u, add_i, sub_i]); split <;> omega) (by (try simp only [add_u, sub_u, add_i, sub_i]); split <;> omega) (by (try simp only [add_u, sub_u, add_i, sub_i]); split <;> omega) (by (try simp only [add_u, sub_u, add_i, sub_i]); split <;> omega))).2)
  refine ⟨fun c33 => ?_, fun c33 => ?_⟩
  intro e; (try simp only [e, Pi.eta, Pu.eta, Rg.eta, -eq_self]); clear e
  (have hcc : 0 ≤ cc ∧ cc ≤ 10 := ⟨Int.not_lt.1 (of_decide_eq_false c2), Int.not_lt.1 (of_decide_eq_false c3)⟩; have hg := gv_good c0 c1 hcc; obtain rfl := eqz c5; have hm := (bmay_iff a).1 c0; obtain ⟨⟨a0, a1⟩, ⟨a2, a3⟩, ⟨a4, a5⟩, a6, a7⟩ := Rg.wf_of ha; simp only [beq_iff_eq, beq_eq_false_iff_ne, ne_eq] at c7 c19 c26 c29 c32 c33; exact tup_Rg (gv_can (by omega) hg (gc_1 c6 (by omega) (by omega)) (gr_1 c6 (by (try simp only [add_u, sub_u, add_i, sub_i]); split <;> omega) (by (try simp only [add_u, sub_u, add_i, sub_i]); split <;> omega) (by (try simp only [add_u, sub_u, add_i, sub_i]); split <;> omega) (by (try simp only [add_u, sub_u, add_i, sub_i]); split <;> omega))).1 (gv_can (by omega) hg (gc_1 c6 (by omega) (by omega)) (gr_1 c6 (by (try simp only [add_u, sub_u, add_i, sub_i]); split <;> omega) (by (try simp only [add_u, sub_u, add_i, sub_i]); split <;> omega) (by (try simp only [add_u, sub_u, add_i, sub_i]); split <;> omega) (by (try simp only [add_u, sub_u, add_i, sub_i]); split <;> omega))).2)
  intro e; (try simp only [e, Pi.eta, Pu.eta, Rg.eta, -eq_self]); clear e
  (have hcc : 0 ≤ cc ∧ cc ≤ 10 := ⟨Int.not_lt.1 (of_decide_eq_false c2), Int.not_lt.1 (of_decide_eq_false c3)⟩; have hg := gv_good c0 c1 hcc; obtain rfl := eqz c5; have hm := (bmay_iff a).1 c0; obtain ⟨⟨a0, a1⟩, ⟨a2, a3⟩, ⟨a4, a5⟩, a6, a7⟩ := Rg.wf_of ha; simp only [beq_iff_eq, beq_eq_false_iff_ne, ne_eq] at c7 c19 c26 c29 c32 c33; exact tup_Rg (gv_can (by omega) hg (gc_1 c6 (by omega) (by omega)) (gr_1 c6 (by (try simp only [add_u, sub_u, add_i, sub_i]); split <;> omega) (by (try simp only [add_u, sub_u, add_i, sub_i]); split <;> omega) (by (try simp only [add_u, sub_u, add_i, sub_i]); split <;> omega) (by (try simp only [add_u, sub_u, add_i, sub_i]); split <;> omega))).1 (gv_can (by omega) hg (gc_1 c6 (by omega) (by omega)) (gr_1 c6 (by (try simp only [add_u, sub_u, add_i, sub_i]); split <;> omega) (by (try simp only [add_u, sub_u, add_i, sub_i]); split <;> omega) (by (try simp only [add_u, sub_u, add_i, sub_i]); split <;> omega) (by (try simp only [add_u, sub_u, add_i, sub_i]); split <;> omega))).2)
  intro e; (try simp only [e, Pi.eta, Pu.eta, Rg.eta, -eq_self]); clear e
  (have hcc : 0 ≤ cc ∧ cc ≤ 10 := ⟨Int.not_lt.1 (of_decide_eq_false c2), Int.not_lt.1 (of_decide_eq_false c3)⟩; have hg := gv_good c0 c1 hcc; obtain rfl := eqz c5; exact tup_Rg (gv_can (by omega) hg (gvc_1n ha hb c6) (gvr_1n ha hb c6)).1 (gv_can (by omega) hg (gvc_1n ha hb c6) (gvr_1n ha hb c6)).2)
  refine ⟨fun c34 => ?_, fun c34 => ?_⟩
  refine ⟨fun c35 => ?_, fun c35 => ?_⟩
  intro e; (try simp only [e, Pi.eta, Pu.eta, Rg.eta, -eq_self]); clear e
  (have hcc : 0 ≤ cc ∧ cc ≤ 10 := ⟨Int.not_lt.1 (of_decide_eq_false c2), Int.not_lt.1 (of_decide_eq_false c3)⟩; have hg := gv_good c0 c1 hcc; obtain rfl := eqz c34; obtain ⟨⟨b0, b1⟩, ⟨b2, b3⟩, ⟨b4, b5⟩, b6, b7⟩ := Rg.wf_of hb; exact tup_Rg (gv_not (.inr ⟨by omega, by have h := eqz c35; simp [bcan, h]⟩)).1 (gv_not (.inr ⟨by omega, by have h := eqz c35; simp [bcan, h]⟩)).2)
  intro e; (try simp only [e, Pi.eta, Pu.eta, Rg.eta, -eq_self]); clear e
  (have hcc : 0 ≤ cc ∧ cc ≤ 10 := ⟨Int.not_lt.1 (of_decide_eq_false c2), Int.not_lt.1 (of_decide_eq_false c3)⟩; have hg := gv_good c0 c1 hcc; obtain rfl := eqz c34; obtain ⟨⟨b0, b1⟩, ⟨b2, b3⟩, ⟨b4, b5⟩, b6, b7⟩ := Rg.wf_of hb; exact tup_Rg (gv_can (by omega) hg (by have h := nez c35; simp [bcan, h]) (by have h := nez c35; (try simp only [add_u, sub_u, add_i, sub_i]); rw [Rg.ext_iff]; unfold brng; simp; omega)).1 (gv_can (by omega) hg (by have h := nez c35; simp [bcan, h]) (by have h := nez c35; (try simp only [add_u, sub_u, add_i, sub_i]); rw [Rg.ext_iff]; unfold brng; simp; omega)).2)
  refine ⟨fun c36 => ?_, fun c36 => ?_⟩
  intro e; (try simp only [e, Pi.eta, Pu.eta, Rg.eta, -eq_self]); clear e
  (have hcc : 0 ≤ cc ∧ cc ≤ 10 := ⟨Int.not_lt.1 (of_decide_eq_false c2), Int.not_lt.1 (of_decide_eq_false c3)⟩; have hg := gv_good c0 c1 hcc; obtain rfl := eqz c36; exact tup_Rg (gv_can (by omega) hg (by simp [bcan]) (by simp [brng])).1 (gv_can (by omega) hg (by simp [bcan]) (by simp [brng])).2)
  refine ⟨fun c37 => ?_, fun c37 => ?_⟩
  refine ⟨fun c38 => ?_, fun c38 => ?_⟩
  intro e; (try simp only [e, Pi.eta, Pu.eta, Rg.eta, -eq_self]); clear e
  (have hcc : 0 ≤ cc ∧ cc ≤ 10 := ⟨Int.not_lt.1 (of_decide_eq_false c2), Int.not_lt.1 (of_decide_eq_false c3)⟩; have hg := gv_good c0 c1 hcc; obtain rfl := eqz c37; obtain ⟨⟨b0, b1⟩, ⟨b2, b3⟩, ⟨b4, b5⟩, b6, b7⟩ := Rg.wf_of hb; exact tup_Rg (gv_not (.inr ⟨by omega, by have h := eqz c38; simp [bcan, h]⟩)).1 (gv_not (.inr ⟨by omega, by have h := eqz c38; simp [bcan, h]⟩)).2)
  intro e; (try simp only [e, Pi.eta, Pu.eta, Rg.eta, -eq_self]); clear e
  (have hcc : 0 ≤ cc ∧ cc ≤ 10 := ⟨Int.not_lt.1 (of_decide_eq_false c2), Int.not_lt.1 (of_decide_eq_false c3)⟩; have hg := gv_good c0 c1 hcc; obtain rfl := eqz c37; obtain ⟨⟨b0, b1⟩, ⟨b2, b3⟩, ⟨b4, b5⟩, b6, b7⟩ := Rg.wf_of hb; exact tup_Rg (gv_can (by omega) hg (by have h := nez c38; simp [bcan, h]) (by have h := nez c38; (try simp only [add_u, sub_u, add_i, sub_i]); rw [Rg.ext_iff]; unfold brng; simp; omega)).1 (gv_can (by omega) hg (by have h := nez c38; simp [bcan, h]) (by have h := nez c38; (try simp only [add_u, sub_u, add_i, sub_i]); rw [Rg.ext_iff]; unfold brng; simp; omega)).2)
  refine ⟨fun c39 => ?_, fun c39 => ?_⟩
  intro e; (try simp only [e, Pi.eta, Pu.eta, Rg.eta, -eq_self]); clear e
  (have hcc : 0 ≤ cc ∧ cc ≤ 10 := ⟨Int.not_lt.1 (of_decide_eq_false c2), Int.not_lt.1 (of_decide_eq_false c3)⟩; have hg := gv_good c0 c1 hcc; obtain rfl := eqz c39; exact tup_Rg (gv_can (by omega) hg (by simp [bcan]) (by simp [brng])).1 (gv_can (by omega) hg (by simp [bcan]) (by simp [brng])).2)
  refine ⟨fun c40 => ?_, fun c40 => ?_⟩
  refine ⟨fun c41 => ?_, fun c41 => ?_⟩
  intro e; (try simp only [e, Pi.eta, Pu.eta, Rg.eta, -eq_self]); clear e
  (have hcc : 0 ≤ cc ∧ cc ≤ 10 := ⟨Int.not_lt.1 (of_decide_eq_false c2), Int.not_lt.1 (of_decide_eq_false c3)⟩; have hg := gv_good c0 c1 hcc; obtain rfl := eqz c40; obtain ⟨⟨b0, b1⟩, ⟨b2, b3⟩, ⟨b4, b5⟩, b6, b7⟩ := Rg.wf_of hb; exact tup_Rg (gv_not (.inr ⟨by omega, by have h := eqz c41; simp [bcan, h]⟩)).1 (gv_not (.inr ⟨by omega, by have h := eqz c41; simp [bcan, h]⟩)).2)
  intro e; (try simp only [e, Pi.eta, Pu.eta, Rg.eta, -eq_self]); clear e
  (have hcc : 0 ≤ cc ∧ cc ≤ 10 := ⟨Int.not_lt.1 (of_decide_eq_false c2), Int.not_lt.1 (of_decide_eq_false c3)⟩; have hg := gv_good c0 c1 hcc; obtain rfl := eqz c40; obtain ⟨⟨b0, b1⟩, ⟨b2, b3⟩, ⟨b4, b5⟩, b6, b7⟩ := Rg.wf_of hb; exact tup_Rg (gv_can (by omega) hg (by have h := nez c41; simp [bcan, h]) (by have h := nez c41; (try simp only [add_u, sub_u, add_i, sub_i]); rw [Rg.ext_iff]; unfold brng; simp; omega)).1 (gv_can (by omega) hg (by have h := nez c41; simp [bcan, h]) (by have h := nez c41; (try simp only [add_u, sub_u, add_i, sub_i]); rw [Rg.ext_iff]; unfold brng; simp; omega)).2)
  refine ⟨fun c42 => ?_, fun c42 => ?_⟩
  intro e; (try simp only [e, Pi.eta, Pu.eta, Rg.eta, -eq_self]); clear e
  (have hcc : 0 ≤ cc ∧ cc ≤ 10 := ⟨Int.not_lt.1 (of_decide_eq_false c2), Int.not_lt.1 (of_decide_eq_false c3)⟩; have hg := gv_good c0 c1 hcc; obtain rfl := eqz c42; exact tup_Rg (gv_can (by omega) hg (by simp [bcan]) (by simp [brng])).1 (gv_can (by omega) hg (by simp [bcan]) (by simp [brng])).2)
  refine ⟨fun c43 => ?_, fun c43 => ?_⟩
  refine ⟨fun c44 => ?_, fun c44 => ?_⟩
  intro e; (try simp only [e, Pi.eta, Pu.eta, Rg.eta, -eq_self]); clear e
  (have hcc : 0 ≤ cc ∧ cc ≤ 10 := ⟨Int.not_lt.1 (of_decide_eq_false c2), Int.not_lt.1 (of_decide_eq_false c3)⟩; have hg := gv_good c0 c1 hcc; obtain rfl := eqz c43; obtain ⟨⟨b0, b1⟩, ⟨b2, b3⟩, ⟨b4, b5⟩, b6, b7⟩ := Rg.wf_of hb; exact tup_Rg (gv_not (.inr ⟨by omega, by have h := eqz c44; simp [bcan, h]⟩)).1 (gv_not (.inr ⟨by omega, by have h := eqz c44; simp [bcan, h]⟩)).2)
  intro e; (try simp only [e, Pi.eta, Pu.eta, Rg.eta, -eq_self]); clear e
  (have hcc : 0 ≤ cc ∧ cc ≤ 10 := ⟨Int.not_lt.1 (of_decide_eq_false c2), Int.not_lt.1 (of_decide_eq_false c3)⟩; have hg := gv_good c0 c1 hcc; obtain rfl := eqz c43; obtain ⟨⟨b0, b1⟩, ⟨b2, b3⟩, ⟨b4, b5⟩, b6, b7⟩ := Rg.wf_of hb; exact tup_Rg (gv_can (by omega) hg (by have h := nez c44; simp [bcan, h]) (by have h := nez c44; (try simp only [add_u, sub_u, add_i, sub_i]); rw [Rg.ext_iff]; unfold brng; simp; omega)).1 (gv_can (by omega) hg (by have h := nez c44; simp [bcan, h]) (by have h := nez c44; (try simp only [add_u, sub_u, add_i, sub_i]); rw [Rg.ext_iff]; unfold brng; simp; omega)).2)
  refine ⟨fun c45 => ?_, fun c45 => ?_⟩
  intro e; (try simp only [e, Pi.eta, Pu.eta, Rg.eta, -eq_self]); clear e
  (have hcc : 0 ≤ cc ∧ cc ≤ 10 := ⟨Int.not_lt.1 (of_decide_eq_false c2), Int.not_lt.1 (of_decide_eq_false c3)⟩; have hg := gv_good c0 c1 hcc; obtain rfl := eqz c45; exact tup_Rg (gv_can (by omega) hg (by simp [bcan]) (by simp [brng])).1 (gv_can (by omega) hg (by simp [bcan]) (by simp [brng])).2)
  intro e; (try simp only [e, Pi.eta, Pu.eta, Rg.eta, -eq_self]); clear e
  (have hcc : 0 ≤ cc ∧ cc ≤ 10 := ⟨Int.not_lt.1 (of_decide_eq_false c2), Int.not_lt.1 (of_decide_eq_false c3)⟩; have hg := gv_good c0 c1 hcc; obtain rfl : cc = 10 := (by have := nez c4; have h1 := nez c5; have h2 := nez c34; have h3 := nez c36; have h4 := nez c37; have h5 := nez c39; have h6 := nez c40; have h7 := nez c42; have h8 := nez c43; have h9 := nez c45; omega); have hq := gv_can (by omega) hg (gvc_10 ha hb) (gvr_10 ha hb); exact tup_Rg hq.1 hq.2)
  intro e; (try simp only [e, Pi.eta, Pu.eta, Rg.eta, -eq_self]); clear e
  exact tup_Rg (gv_not (.inl (by unfold bgood; rw [c0, c1]; rfl))).1 (gv_not (.inl (by unfold bgood; rw [c0, c1]; rfl))).2
  intro e; (try simp only [e, Pi.eta, Pu.eta, Rg.eta, -eq_self]); clear e
  exact tup_Rg (gv_not (.inl (by unfold bgood; rw [c0]; rfl))).1 (gv_not (.inl (by unfold bgood; rw [c0]; rfl))).2
theorem sK_rgiv {sp : Spec} {key : Nat} (hF : sp.F key = sF_rgiv) (hP : sp.pre key = fun _ => True := by rfl) : SmOk Tryz.prog sp (sM_rgiv key) :=
  fun_ok (s := sM_rgiv key) hF hP (by kernel_rfl) tysok_XbO (smc (sK_rmay rfl) (smc (sK_rall rfl) (smc (sK_rmeet rfl) (smc (sK_rsingle rfl) (smc (sK_rnar rfl) sm0))))) Tryz.func35 sR_rgiv (.inl rfl) (fun x0 gx0 x1 gx1 x2 gx2 x3 gx3 x4 gx4 x5 gx5 x6 gx6 x7 gx7 x8 gx8 hp ρ g => sX_rgiv x0 gx0 ⟨x1, x2, x3, x4⟩ ⟨gx1, gx2, gx3, gx4⟩ ⟨x5, x6, x7, x8⟩ ⟨gx5, gx6, gx7, gx8⟩ ρ g)
end Go.Proofs.YtcfnglbcgkappaaGreat
