/- Contracts of the small functions of the document's own package of layer 7, by the symbolic run. -/
import Derived.Test.YtcfnglbcgkappaaGreatXbM
import Derived.Test.YtcfnglbcgkappaaGreatProg
import Derived.Laws.Externs
set_option linter.unusedVariables false
set_option linter.unusedSimpArgs false
namespace Go.Proofs.YtcfnglbcgkappaaGreat
open Go.RowKit Go.ChangeShapes Go.WideShapes

def tys_XbN : List (Nat × TI) := [(2, ⟨false, 1, [.int .i64 (.lit 0)], [], none, some .i64, false, false, none, 8, false⟩),
 (4, ⟨false, 1, [.bool (.tt false)], [], none, none, false, true, none, 1, false⟩),
 (23, ⟨false, 1, [.int .u64 (.lit 0)], [], none, some .u64, false, false, none, 8, false⟩),
 (25, ⟨true, 4, [.int .u64 (.lit 0), .int .u64 (.lit 0), .int .i64 (.lit 0), .int .i64 (.lit 0)], [(0, 23), (1, 23), (2, 2), (3, 2)], none, none, false, false, none, 32, false⟩)]
set_option maxRecDepth 100000 in
theorem tysck_XbN : (tys_XbN.all fun p => ckTI Tryz.prog p.1 p.2) = true := by kernel_rfl
theorem tysne_XbN : (tys_XbN.all fun p => !p.2.eqok) = true := by kernel_rfl
theorem tysok_XbN : ∀ t i, (t, i) ∈ tys_XbN → TIok Tryz.prog t i := by
  intro t i h
  have h1 := all_at (f := fun _ i => !i.eqok) tysne_XbN h
  exact TIok_of (all_at (f := ckTI Tryz.prog) tysck_XbN h) (fun he => by simp [he] at h1) (fun he => by simp [he] at h1)
def sM_rmay (key : Nat) : Sm := ⟨41, key, [.agg kRg], [.one .bool], false⟩
def sV_rmay (a : Rg) : List Dt := [.z (b2i (bmay a))]
def sF_rmay : List Dt → List Dt
  | [.z x0, .z x1, .z x2, .z x3] => sV_rmay ⟨x0, x1, x2, x3⟩
  | _ => []
def sT_rmay : Tr :=
(.br (.lt (.var 1) (.var 0))
(.leaf (.consb (.tt false) .nil))
(.leaf (.consb (.not (.lt (.var 3) (.var 2))) .nil)))
def sP_rmay : Spec := ⟨fun k => match k with | _ => fun _ => [], fun k => match k with | _ => fun _ => True⟩
set_option maxRecDepth 100000 in
theorem sR_rmay : treeIs tys_XbN [] [] [] 200 Tryz.f41 [.agg kRg] [.one .bool] false [.int .u64, .int .u64, .int .i64, .int .i64] sT_rmay := ⟨by kernel_rfl, by kernel_rfl, by kernel_rfl⟩
set_option maxRecDepth 100000 in
set_option maxHeartbeats 8000000 in
theorem sX_rmay (a : Rg) (ha : Rg.ok a) (ρ : Env) (g : varsD ρ 0 [.int .u64, .int .u64, .int .i64, .int .i64] = [.z a.ul, .z a.uh, .z a.sl, .z a.sh]) : sT_rmay.asks sP_rmay (fun ρ e => e.D ρ = sF_rmay [.z a.ul, .z a.uh, .z a.sl, .z a.sh]) ρ fun _ _ => False := by
  simp only [varsD, varD, List.cons.injEq, Dt.z.injEq, Dt.l.injEq, b2i_eq_iff, Nat.reduceAdd, and_true] at g
  simp only [sT_rmay, sP_rmay, sF_rmay, sV_rmay, Tr.asks, upd_same, okDs, okD, eqs, E.I, E.B, E.L, E.R, E.D, E.vs, dI, dB, dL, varD, varsD, List.getElem?_cons_zero, List.getElem?_cons_succ, List.cons_append, List.nil_append, Nat.zero_add, Nat.add_zero, Nat.reduceAdd, and_true, true_and, b2i_one, -eq_self, Rg.eta, g]
  refine ⟨fun c0 => ?_, fun c0 => ?_⟩
  (unfold bmay; simp_all [not_lt_le]; try (intros; omega))
  (unfold bmay; simp_all [not_lt_le]; try (intros; omega))
theorem sK_rmay {sp : Spec} {key : Nat} (hF : sp.F key = sF_rmay) (hP : sp.pre key = fun _ => True := by rfl) : SmOk Tryz.prog sp (sM_rmay key) :=
  fun_ok (s := sM_rmay key) hF hP (by kernel_rfl) tysok_XbN (sm0) Tryz.func41 sR_rmay (.inl rfl) (fun x0 gx0 x1 gx1 x2 gx2 x3 gx3 hp ρ g => sX_rmay ⟨x0, x1, x2, x3⟩ ⟨gx0, gx1, gx2, gx3⟩ ρ g)
def sM_rall (key : Nat) : Sm := ⟨44, key, [], [.agg kRg], false⟩
def sF_rall : List Dt → List Dt
  | [] => [.z ball.ul, .z ball.uh, .z ball.sl, .z ball.sh]
  | _ => []
def sT_rall : Tr :=
(.leaf (.cons (.lit 0) (.cons (.lit 18446744073709551615) (.cons (.lit (-9223372036854775808)) (.cons (.lit 9223372036854775807) .nil)))))
def sP_rall : Spec := ⟨fun k => match k with | _ => fun _ => [], fun k => match k with | _ => fun _ => True⟩
set_option maxRecDepth 100000 in
theorem sR_rall : treeIs tys_XbN [] [] [] 200 Tryz.f44 [] [.agg kRg] false [] sT_rall := ⟨by kernel_rfl, by kernel_rfl, by kernel_rfl⟩
set_option maxRecDepth 100000 in
set_option maxHeartbeats 8000000 in
theorem sX_rall  (ρ : Env) (g : varsD ρ 0 [] = []) : sT_rall.asks sP_rall (fun ρ e => e.D ρ = sF_rall []) ρ fun _ _ => False := by
  simp only [sT_rall, sP_rall, sF_rall, Tr.asks, upd_same, okDs, okD, eqs, E.I, E.B, E.L, E.R, E.D, E.vs, dI, dB, dL, varD, varsD, List.getElem?_cons_zero, List.getElem?_cons_succ, List.cons_append, List.nil_append, Nat.zero_add, Nat.add_zero, Nat.reduceAdd, and_true, true_and, b2i_one, -eq_self]
  rfl
theorem sK_rall {sp : Spec} {key : Nat} (hF : sp.F key = sF_rall) (hP : sp.pre key = fun _ => True := by rfl) : SmOk Tryz.prog sp (sM_rall key) :=
  fun_ok (s := sM_rall key) hF hP (by kernel_rfl) tysok_XbN (sm0) Tryz.func44 sR_rall (.inl rfl) (fun  hp ρ g => sX_rall ρ g)
def sM_rone (key : Nat) : Sm := ⟨48, key, [.one (.int .u64)], [.agg kRg], false⟩
def sV_rone (v : Int) : List Dt := [.z ((bone v).ul), .z ((bone v).uh), .z ((bone v).sl), .z ((bone v).sh)]
def sF_rone : List Dt → List Dt
  | [.z x0] => sV_rone x0
  | _ => []
def sT_rone : Tr :=
(.leaf (.cons (.var 0) (.cons (.var 0) (.cons (.conv .i64 (.var 0)) (.cons (.conv .i64 (.var 0)) .nil)))))
def sP_rone : Spec := ⟨fun k => match k with | _ => fun _ => [], fun k => match k with | _ => fun _ => True⟩
set_option maxRecDepth 100000 in
theorem sR_rone : treeIs tys_XbN [] [] [] 200 Tryz.f48 [.one (.int .u64)] [.agg kRg] false [.int .u64] sT_rone := ⟨by kernel_rfl, by kernel_rfl, by kernel_rfl⟩
set_option maxRecDepth 100000 in
set_option maxHeartbeats 8000000 in
theorem sX_rone (v : Int) (hv : inK .u64 v = true) (ρ : Env) (g : varsD ρ 0 [.int .u64] = [.z v]) : sT_rone.asks sP_rone (fun ρ e => e.D ρ = sF_rone [.z v]) ρ fun _ _ => False := by
  simp only [varsD, varD, List.cons.injEq, Dt.z.injEq, Dt.l.injEq, b2i_eq_iff, Nat.reduceAdd, and_true] at g
  simp only [sT_rone, sP_rone, sF_rone, sV_rone, Tr.asks, upd_same, okDs, okD, eqs, E.I, E.B, E.L, E.R, E.D, E.vs, dI, dB, dL, varD, varsD, List.getElem?_cons_zero, List.getElem?_cons_succ, List.cons_append, List.nil_append, Nat.zero_add, Nat.add_zero, Nat.reduceAdd, and_true, true_and, b2i_one, -eq_self, g]
  simp [bone, s64_wrap]
theorem sK_rone {sp : Spec} {key : Nat} (hF : sp.F key = sF_rone) (hP : sp.pre key = fun _ => True := by rfl) : SmOk Tryz.prog sp (sM_rone key) :=
  fun_ok (s := sM_rone key) hF hP (by kernel_rfl) tysok_XbN (sm0) Tryz.func48 sR_rone (.inl rfl) (fun x0 gx0 hp ρ g => sX_rone x0 gx0 ρ g)
def sM_rhas (key : Nat) : Sm := ⟨54, key, [.agg kRg, .one (.int .u64)], [.one .bool], false⟩
def sV_rhas (a : Rg) (v : Int) : List Dt := [.z (b2i (bhas a v))]
def sF_rhas : List Dt → List Dt
  | [.z x0, .z x1, .z x2, .z x3, .z x4] => sV_rhas ⟨x0, x1, x2, x3⟩ x4
  | _ => []
def sT_rhas : Tr :=
(.call 0 ([.bool]) (.vs 0 4 .nil) 5
(.br (.bvar 5)
(.br (.lt (.var 4) (.var 0))
(.leaf (.consb (.tt false) .nil))
(.br (.lt (.var 1) (.var 4))
(.leaf (.consb (.tt false) .nil))
(.br (.lt (.conv .i64 (.var 4)) (.var 2))
(.leaf (.consb (.tt false) .nil))
(.leaf (.consb (.not (.lt (.var 3) (.conv .i64 (.var 4)))) .nil)))))
(.leaf (.consb (.tt false) .nil))))
def sP_rhas : Spec := ⟨fun k => match k with | 0 => sF_rmay | _ => fun _ => [], fun k => match k with | _ => fun _ => True⟩
set_option maxRecDepth 100000 in
theorem sR_rhas : treeIs tys_XbN [sM_rmay 0] [] [] 200 Tryz.f54 [.agg kRg, .one (.int .u64)] [.one .bool] false [.int .u64, .int .u64, .int .i64, .int .i64, .int .u64] sT_rhas := ⟨by kernel_rfl, by kernel_rfl, by kernel_rfl⟩
set_option maxRecDepth 100000 in
set_option maxHeartbeats 8000000 in
theorem sX_rhas (a : Rg) (ha : Rg.ok a) (v : Int) (hv : inK .u64 v = true) (ρ : Env) (g : varsD ρ 0 [.int .u64, .int .u64, .int .i64, .int .i64, .int .u64] = [.z a.ul, .z a.uh, .z a.sl, .z a.sh, .z v]) : sT_rhas.asks sP_rhas (fun ρ e => e.D ρ = sF_rhas [.z a.ul, .z a.uh, .z a.sl, .z a.sh, .z v]) ρ fun _ _ => False := by
  simp only [varsD, varD, List.cons.injEq, Dt.z.injEq, Dt.l.injEq, b2i_eq_iff, Nat.reduceAdd, and_true] at g
  simp only [sT_rhas, sP_rhas, sF_rmay, sV_rmay, sF_rhas, sV_rhas, Tr.asks, upd_same, okDs, okD, eqs, E.I, E.B, E.L, E.R, E.D, E.vs, dI, dB, dL, varD, varsD, List.getElem?_cons_zero, List.getElem?_cons_succ, List.cons_append, List.nil_append, Nat.zero_add, Nat.add_zero, Nat.reduceAdd, and_true, true_and, b2i_one, -eq_self, Pi.eta, Pu.eta, Rg.eta, g]
  intro e; (try simp only [e, Pi.eta, Pu.eta, Rg.eta, -eq_self]); clear e
  refine ⟨fun c0 => ?_, fun c0 => ?_⟩
  refine ⟨fun c1 => ?_, fun c1 => ?_⟩
  (unfold bhas; simp_all [s64_wrap, not_lt_le]; try (intros; omega))
  refine ⟨fun c2 => ?_, fun c2 => ?_⟩
  (unfold bhas; simp_all [s64_wrap, not_lt_le]; try (intros; omega))
  refine ⟨fun c3 => ?_, fun c3 => ?_⟩
  (unfold bhas; simp_all [s64_wrap, not_lt_le]; try (intros; omega))
  (unfold bhas; simp_all [s64_wrap, not_lt_le]; try (intros; omega))
  (unfold bhas; simp_all [s64_wrap, not_lt_le]; try (intros; omega))
theorem sK_rhas {sp : Spec} {key : Nat} (hF : sp.F key = sF_rhas) (hP : sp.pre key = fun _ => True := by rfl) : SmOk Tryz.prog sp (sM_rhas key) :=
  fun_ok (s := sM_rhas key) hF hP (by kernel_rfl) tysok_XbN (smc (sK_rmay rfl) sm0) Tryz.func54 sR_rhas (.inl rfl) (fun x0 gx0 x1 gx1 x2 gx2 x3 gx3 x4 gx4 hp ρ g => sX_rhas ⟨x0, x1, x2, x3⟩ ⟨gx0, gx1, gx2, gx3⟩ x4 gx4 ρ g)
def sM_rsgn (key : Nat) : Sm := ⟨128, key, [.agg kRg], [.agg kRg], false⟩
def sV_rsgn (a : Rg) : List Dt := [.z ((bsgn a).ul), .z ((bsgn a).uh), .z ((bsgn a).sl), .z ((bsgn a).sh)]
def sF_rsgn : List Dt → List Dt
  | [.z x0, .z x1, .z x2, .z x3] => sV_rsgn ⟨x0, x1, x2, x3⟩
  | _ => []
def sT_rsgn : Tr :=
(.br (.eq (.bin .shr .u64 (.var 0) (.lit 63)) (.bin .shr .u64 (.var 1) (.lit 63)))
(.leaf (.vs 0 2 (.cons (.mx (.var 2) (.conv .i64 (.var 0))) (.cons (.mn (.var 3) (.conv .i64 (.var 1))) .nil))))
(.leaf (.vs 0 4 .nil)))
def sP_rsgn : Spec := ⟨fun k => match k with | _ => fun _ => [], fun k => match k with | _ => fun _ => True⟩
set_option maxRecDepth 100000 in
theorem sR_rsgn : treeIs tys_XbN [] [] [] 200 Tryz.f128 [.agg kRg] [.agg kRg] false [.int .u64, .int .u64, .int .i64, .int .i64] sT_rsgn := ⟨by kernel_rfl, by kernel_rfl, by kernel_rfl⟩
set_option maxRecDepth 100000 in
set_option maxHeartbeats 8000000 in
theorem sX_rsgn (a : Rg) (ha : Rg.ok a) (ρ : Env) (g : varsD ρ 0 [.int .u64, .int .u64, .int .i64, .int .i64] = [.z a.ul, .z a.uh, .z a.sl, .z a.sh]) : sT_rsgn.asks sP_rsgn (fun ρ e => e.D ρ = sF_rsgn [.z a.ul, .z a.uh, .z a.sl, .z a.sh]) ρ fun _ _ => False := by
  simp only [varsD, varD, List.cons.injEq, Dt.z.injEq, Dt.l.injEq, b2i_eq_iff, Nat.reduceAdd, and_true] at g
  simp only [sT_rsgn, sP_rsgn, sF_rsgn, sV_rsgn, Tr.asks, upd_same, okDs, okD, eqs, E.I, E.B, E.L, E.R, E.D, E.vs, dI, dB, dL, varD, varsD, List.getElem?_cons_zero, List.getElem?_cons_succ, List.cons_append, List.nil_append, Nat.zero_add, Nat.add_zero, Nat.reduceAdd, and_true, true_and, b2i_one, -eq_self, Rg.eta, g]
  have wfg := Rg.wf_of ha
  refine ⟨fun c0 => ?_, fun c0 => ?_⟩
  (rw [sgn_t wfg c0])
  (rw [sgn_f wfg c0])
theorem sK_rsgn {sp : Spec} {key : Nat} (hF : sp.F key = sF_rsgn) (hP : sp.pre key = fun _ => True := by rfl) : SmOk Tryz.prog sp (sM_rsgn key) :=
  fun_ok (s := sM_rsgn key) hF hP (by kernel_rfl) tysok_XbN (sm0) Tryz.func128 sR_rsgn (.inl rfl) (fun x0 gx0 x1 gx1 x2 gx2 x3 gx3 hp ρ g => sX_rsgn ⟨x0, x1, x2, x3⟩ ⟨gx0, gx1, gx2, gx3⟩ ρ g)
def sM_runs (key : Nat) : Sm := ⟨129, key, [.agg kRg], [.agg kRg], false⟩
def sV_runs (a : Rg) : List Dt := [.z ((buns a).ul), .z ((buns a).uh), .z ((buns a).sl), .z ((buns a).sh)]
def sF_runs : List Dt → List Dt
  | [.z x0, .z x1, .z x2, .z x3] => sV_runs ⟨x0, x1, x2, x3⟩
  | _ => []
def sT_runs : Tr :=
(.br (.beq (.lt (.var 2) (.lit 0)) (.lt (.var 3) (.lit 0)))
(.leaf (.cons (.mx (.var 0) (.conv .u64 (.var 2))) (.cons (.mn (.var 1) (.conv .u64 (.var 3))) (.vs 2 2 .nil))))
(.leaf (.vs 0 4 .nil)))
def sP_runs : Spec := ⟨fun k => match k with | _ => fun _ => [], fun k => match k with | _ => fun _ => True⟩
set_option maxRecDepth 100000 in
theorem sR_runs : treeIs tys_XbN [] [] [] 200 Tryz.f129 [.agg kRg] [.agg kRg] false [.int .u64, .int .u64, .int .i64, .int .i64] sT_runs := ⟨by kernel_rfl, by kernel_rfl, by kernel_rfl⟩
set_option maxRecDepth 100000 in
set_option maxHeartbeats 8000000 in
theorem sX_runs (a : Rg) (ha : Rg.ok a) (ρ : Env) (g : varsD ρ 0 [.int .u64, .int .u64, .int .i64, .int .i64] = [.z a.ul, .z a.uh, .z a.sl, .z a.sh]) : sT_runs.asks sP_runs (fun ρ e => e.D ρ = sF_runs [.z a.ul, .z a.uh, .z a.sl, .z a.sh]) ρ fun _ _ => False := by
  simp only [varsD, varD, List.cons.injEq, Dt.z.injEq, Dt.l.injEq, b2i_eq_iff, Nat.reduceAdd, and_true] at g
  simp only [sT_runs, sP_runs, sF_runs, sV_runs, Tr.asks, upd_same, okDs, okD, eqs, E.I, E.B, E.L, E.R, E.D, E.vs, dI, dB, dL, varD, varsD, List.getElem?_cons_zero, List.getElem?_cons_succ, List.cons_append, List.nil_append, Nat.zero_add, Nat.add_zero, Nat.reduceAdd, and_true, true_and, b2i_one, -eq_self, Rg.eta, g]
  refine ⟨fun c0 => ?_, fun c0 => ?_⟩
  (rw [uns_t c0])
  (rw [uns_f c0])
theorem sK_runs {sp : Spec} {key : Nat} (hF : sp.F key = sF_runs) (hP : sp.pre key = fun _ => True := by rfl) : SmOk Tryz.prog sp (sM_runs key) :=
  fun_ok (s := sM_runs key) hF hP (by kernel_rfl) tysok_XbN (sm0) Tryz.func129 sR_runs (.inl rfl) (fun x0 gx0 x1 gx1 x2 gx2 x3 gx3 hp ρ g => sX_runs ⟨x0, x1, x2, x3⟩ ⟨gx0, gx1, gx2, gx3⟩ ρ g)
def sM_rnar (key : Nat) : Sm := ⟨96, key, [.agg kRg], [.agg kRg, .one .bool], true⟩
def sV_rnar (a : Rg) : List Dt := [.z ((bnar a).ul), .z ((bnar a).uh), .z ((bnar a).sl), .z ((bnar a).sh), .z (b2i (bnok a))]
def sF_rnar : List Dt → List Dt
  | [.z x0, .z x1, .z x2, .z x3] => sV_rnar ⟨x0, x1, x2, x3⟩
  | _ => []
def sT_rnar : Tr :=
(.call 0 ([.bool]) (.vs 0 4 .nil) 4
(.br (.bvar 4)
(.call 2 (kRg) (.vs 0 4 .nil) 5
(.call 0 ([.bool]) (.vs 5 4 .nil) 9
(.br (.bvar 9)
(.call 3 (kRg) (.vs 5 4 .nil) 10
(.call 0 ([.bool]) (.vs 10 4 .nil) 14
(.br (.bvar 14)
(.call 2 (kRg) (.vs 10 4 .nil) 15
(.call 0 ([.bool]) (.vs 15 4 .nil) 19
(.br (.bvar 19)
(.leaf (.vs 15 4 (.consb (.tt true) .nil)))
(.call 1 (kRg) .nil 20
(.leaf (.vs 20 4 (.consb (.tt false) .nil)))))))
(.call 1 (kRg) .nil 15
(.leaf (.vs 15 4 (.consb (.tt false) .nil)))))))
(.call 1 (kRg) .nil 10
(.leaf (.vs 10 4 (.consb (.tt false) .nil)))))))
(.call 1 (kRg) .nil 5
(.leaf (.vs 5 4 (.consb (.tt false) .nil))))))
def sP_rnar : Spec := ⟨fun k => match k with | 0 => sF_rmay | 1 => sF_rall | 2 => sF_rsgn | 3 => sF_runs | _ => fun _ => [], fun k => match k with | _ => fun _ => True⟩
set_option maxRecDepth 100000 in
theorem sR_rnar : treeIs tys_XbN [sM_rmay 0, sM_rall 1, sM_rsgn 2, sM_runs 3] [] [] 200 Tryz.f96 [.agg kRg] [.agg kRg, .one .bool] true [.int .u64, .int .u64, .int .i64, .int .i64] sT_rnar := ⟨by kernel_rfl, by kernel_rfl, by kernel_rfl⟩
set_option maxRecDepth 100000 in
set_option maxHeartbeats 8000000 in
theorem sX_rnar (a : Rg) (ha : Rg.ok a) (ρ : Env) (g : varsD ρ 0 [.int .u64, .int .u64, .int .i64, .int .i64] = [.z a.ul, .z a.uh, .z a.sl, .z a.sh]) : sT_rnar.asks sP_rnar (fun ρ e => e.D ρ = sF_rnar [.z a.ul, .z a.uh, .z a.sl, .z a.sh]) ρ fun _ _ => False := by
  simp only [varsD, varD, List.cons.injEq, Dt.z.injEq, Dt.l.injEq, b2i_eq_iff, Nat.reduceAdd, and_true] at g
  simp only [sT_rnar, sP_rnar, kRg, sF_rmay, sF_rall, sF_rsgn, sF_runs, sV_rmay, sV_rsgn, sV_runs, sF_rnar, sV_rnar, Tr.asks, upd_same, okDs, okD, eqs, E.I, E.B, E.L, E.R, E.D, E.vs, dI, dB, dL, varD, varsD, List.getElem?_cons_zero, List.getElem?_cons_succ, List.cons_append, List.nil_append, Nat.zero_add, Nat.add_zero, Nat.reduceAdd, and_true, true_and, b2i_one, -eq_self, Pi.eta, Pu.eta, Rg.eta, g]
  intro e; (try simp only [e, Pi.eta, Pu.eta, Rg.eta, -eq_self]); clear e
  refine ⟨fun c0 => ?_, fun c0 => ?_⟩
  intro e; (try simp only [e, Pi.eta, Pu.eta, Rg.eta, -eq_self]); clear e
  intro e; (try simp only [e, Pi.eta, Pu.eta, Rg.eta, -eq_self]); clear e
  refine ⟨fun c1 => ?_, fun c1 => ?_⟩
  intro e; (try simp only [e, Pi.eta, Pu.eta, Rg.eta, -eq_self]); clear e
  intro e; (try simp only [e, Pi.eta, Pu.eta, Rg.eta, -eq_self]); clear e
  refine ⟨fun c2 => ?_, fun c2 => ?_⟩
  intro e; (try simp only [e, Pi.eta, Pu.eta, Rg.eta, -eq_self]); clear e
  intro e; (try simp only [e, Pi.eta, Pu.eta, Rg.eta, -eq_self]); clear e
  refine ⟨fun c3 => ?_, fun c3 => ?_⟩
  (unfold bnar bnok; simp_all)
  intro e; (try simp only [e, Pi.eta, Pu.eta, Rg.eta, -eq_self]); clear e
  (unfold bnar bnok; simp_all)
  intro e; (try simp only [e, Pi.eta, Pu.eta, Rg.eta, -eq_self]); clear e
  (unfold bnar bnok; simp_all)
  intro e; (try simp only [e, Pi.eta, Pu.eta, Rg.eta, -eq_self]); clear e
  (unfold bnar bnok; simp_all)
  intro e; (try simp only [e, Pi.eta, Pu.eta, Rg.eta, -eq_self]); clear e
  (unfold bnar bnok; simp_all)
theorem sK_rnar {sp : Spec} {key : Nat} (hF : sp.F key = sF_rnar) (hP : sp.pre key = fun _ => True := by rfl) : SmOk Tryz.prog sp (sM_rnar key) :=
  fun_ok (s := sM_rnar key) hF hP (by kernel_rfl) tysok_XbN (smc (sK_rmay rfl) (smc (sK_rall rfl) (smc (sK_rsgn rfl) (smc (sK_runs rfl) sm0)))) Tryz.func96 sR_rnar (.inl rfl) (fun x0 gx0 x1 gx1 x2 gx2 x3 gx3 hp ρ g => sX_rnar ⟨x0, x1, x2, x3⟩ ⟨gx0, gx1, gx2, gx3⟩ ρ g)
def sM_rnard (key : Nat) : Sm := ⟨121, key, [.agg kRg], [.agg kRg], false⟩
def sV_rnard (a : Rg) : List Dt := [.z ((bnar a).ul), .z ((bnar a).uh), .z ((bnar a).sl), .z ((bnar a).sh)]
def sF_rnard : List Dt → List Dt
  | [.z x0, .z x1, .z x2, .z x3] => sV_rnard ⟨x0, x1, x2, x3⟩
  | _ => []
def sT_rnard : Tr :=
(.call 0 (kRg ++ [.bool]) (.vs 0 4 .nil) 4
(.leaf (.vs 4 4 .nil)))
def sP_rnard : Spec := ⟨fun k => match k with | 0 => sF_rnar | _ => fun _ => [], fun k => match k with | _ => fun _ => True⟩
set_option maxRecDepth 100000 in
theorem sR_rnard : treeIs tys_XbN [sM_rnar 0] [] [] 200 Tryz.f121 [.agg kRg] [.agg kRg] false [.int .u64, .int .u64, .int .i64, .int .i64] sT_rnard := ⟨by kernel_rfl, by kernel_rfl, by kernel_rfl⟩
set_option maxRecDepth 100000 in
set_option maxHeartbeats 8000000 in
theorem sX_rnard (a : Rg) (ha : Rg.ok a) (ρ : Env) (g : varsD ρ 0 [.int .u64, .int .u64, .int .i64, .int .i64] = [.z a.ul, .z a.uh, .z a.sl, .z a.sh]) : sT_rnard.asks sP_rnard (fun ρ e => e.D ρ = sF_rnard [.z a.ul, .z a.uh, .z a.sl, .z a.sh]) ρ fun _ _ => False := by
  simp only [varsD, varD, List.cons.injEq, Dt.z.injEq, Dt.l.injEq, b2i_eq_iff, Nat.reduceAdd, and_true] at g
  simp only [sT_rnard, sP_rnard, kRg, sF_rnar, sV_rnar, sF_rnard, sV_rnard, Tr.asks, upd_same, okDs, okD, eqs, E.I, E.B, E.L, E.R, E.D, E.vs, dI, dB, dL, varD, varsD, List.getElem?_cons_zero, List.getElem?_cons_succ, List.cons_append, List.nil_append, Nat.zero_add, Nat.add_zero, Nat.reduceAdd, and_true, true_and, b2i_one, -eq_self, Pi.eta, Pu.eta, Rg.eta, g]
  intro e; (try simp only [e, Pi.eta, Pu.eta, Rg.eta, -eq_self]); clear e
  rfl
theorem sK_rnard {sp : Spec} {key : Nat} (hF : sp.F key = sF_rnard) (hP : sp.pre key = fun _ => True := by rfl) : SmOk Tryz.prog sp (sM_rnard key) :=
  fun_ok (s := sM_rnard key) hF hP (by kernel_rfl) tysok_XbN (smc (sK_rnar rfl) sm0) Tryz.func121 sR_rnard (.inl rfl) (fun x0 gx0 x1 gx1 x2 gx2 x3 gx3 hp ρ g => sX_rnard ⟨x0, x1, x2, x3⟩ ⟨gx0, gx1, gx2, gx3⟩ ρ g)
def sM_rsingle (key : Nat) : Sm := ⟨38, key, [.agg kRg], [.one (.int .u64), .one .bool], true⟩
def sV_rsingle (a : Rg) : List Dt := [.z (bsingle a), .z (b2i (bones a))]
def sF_rsingle : List Dt → List Dt
  | [.z x0, .z x1, .z x2, .z x3] => sV_rsingle ⟨x0, x1, x2, x3⟩
  | _ => []
def sT_rsingle : Tr :=
(.br (.eq (.var 0) (.var 1))
(.call 0 ([.bool]) (.vs 0 4 (.cons (.var 0) .nil)) 4
(.br (.bvar 4)
(.leaf (.cons (.var 0) (.consb (.tt true) .nil)))
(.leaf (.cons (.lit 0) (.consb (.tt false) .nil)))))
(.leaf (.cons (.lit 0) (.consb (.tt false) .nil))))
def sP_rsingle : Spec := ⟨fun k => match k with | 0 => sF_rhas | _ => fun _ => [], fun k => match k with | _ => fun _ => True⟩
set_option maxRecDepth 100000 in
theorem sR_rsingle : treeIs tys_XbN [sM_rhas 0] [] [] 200 Tryz.f38 [.agg kRg] [.one (.int .u64), .one .bool] true [.int .u64, .int .u64, .int .i64, .int .i64] sT_rsingle := ⟨by kernel_rfl, by kernel_rfl, by kernel_rfl⟩
set_option maxRecDepth 100000 in
set_option maxHeartbeats 8000000 in
theorem sX_rsingle (a : Rg) (ha : Rg.ok a) (ρ : Env) (g : varsD ρ 0 [.int .u64, .int .u64, .int .i64, .int .i64] = [.z a.ul, .z a.uh, .z a.sl, .z a.sh]) : sT_rsingle.asks sP_rsingle (fun ρ e => e.D ρ = sF_rsingle [.z a.ul, .z a.uh, .z a.sl, .z a.sh]) ρ fun _ _ => False := by
  simp only [varsD, varD, List.cons.injEq, Dt.z.injEq, Dt.l.injEq, b2i_eq_iff, Nat.reduceAdd, and_true] at g
  simp only [sT_rsingle, sP_rsingle, sF_rhas, sV_rhas, sF_rsingle, sV_rsingle, Tr.asks, upd_same, okDs, okD, eqs, E.I, E.B, E.L, E.R, E.D, E.vs, dI, dB, dL, varD, varsD, List.getElem?_cons_zero, List.getElem?_cons_succ, List.cons_append, List.nil_append, Nat.zero_add, Nat.add_zero, Nat.reduceAdd, and_true, true_and, b2i_one, -eq_self, Pi.eta, Pu.eta, Rg.eta, g]
  refine ⟨fun c0 => ?_, fun c0 => ?_⟩
  intro e; (try simp only [e, Pi.eta, Pu.eta, Rg.eta, -eq_self]); clear e
  refine ⟨fun c1 => ?_, fun c1 => ?_⟩
  (unfold bsingle bones; simp_all)
  (unfold bsingle bones; simp_all)
  (unfold bsingle bones; simp_all)
theorem sK_rsingle {sp : Spec} {key : Nat} (hF : sp.F key = sF_rsingle) (hP : sp.pre key = fun _ => True := by rfl) : SmOk Tryz.prog sp (sM_rsingle key) :=
  fun_ok (s := sM_rsingle key) hF hP (by kernel_rfl) tysok_XbN (smc (sK_rhas rfl) sm0) Tryz.func38 sR_rsingle (.inl rfl) (fun x0 gx0 x1 gx1 x2 gx2 x3 gx3 hp ρ g => sX_rsingle ⟨x0, x1, x2, x3⟩ ⟨gx0, gx1, gx2, gx3⟩ ρ g)
def sM_rjoin (key : Nat) : Sm := ⟨60, key, [.agg kRg, .agg kRg], [.agg kRg], false⟩
def sV_rjoin (a : Rg) (b : Rg) : List Dt := [.z ((bjoin a b).ul), .z ((bjoin a b).uh), .z ((bjoin a b).sl), .z ((bjoin a b).sh)]
def sF_rjoin : List Dt → List Dt
  | [.z x0, .z x1, .z x2, .z x3, .z x4, .z x5, .z x6, .z x7] => sV_rjoin ⟨x0, x1, x2, x3⟩ ⟨x4, x5, x6, x7⟩
  | _ => []
def sT_rjoin : Tr :=
(.call 0 ([.bool]) (.vs 0 4 .nil) 8
(.br (.bvar 8)
(.call 0 ([.bool]) (.vs 4 4 .nil) 9
(.br (.bvar 9)
(.leaf (.cons (.mn (.var 0) (.var 4)) (.cons (.mx (.var 1) (.var 5)) (.cons (.mn (.var 2) (.var 6)) (.cons (.mx (.var 3) (.var 7)) .nil)))))
(.call 1 (kRg) .nil 10
(.leaf (.vs 10 4 .nil)))))
(.call 1 (kRg) .nil 9
(.leaf (.vs 9 4 .nil)))))
def sP_rjoin : Spec := ⟨fun k => match k with | 0 => sF_rmay | 1 => sF_rall | _ => fun _ => [], fun k => match k with | _ => fun _ => True⟩
set_option maxRecDepth 100000 in
theorem sR_rjoin : treeIs tys_XbN [sM_rmay 0, sM_rall 1] [] [] 200 Tryz.f60 [.agg kRg, .agg kRg] [.agg kRg] false [.int .u64, .int .u64, .int .i64, .int .i64, .int .u64, .int .u64, .int .i64, .int .i64] sT_rjoin := ⟨by kernel_rfl, by kernel_rfl, by kernel_rfl⟩
set_option maxRecDepth 100000 in
set_option maxHeartbeats 8000000 in
theorem sX_rjoin (a : Rg) (ha : Rg.ok a) (b : Rg) (hb : Rg.ok b) (ρ : Env) (g : varsD ρ 0 [.int .u64, .int .u64, .int .i64, .int .i64, .int .u64, .int .u64, .int .i64, .int .i64] = [.z a.ul, .z a.uh, .z a.sl, .z a.sh, .z b.ul, .z b.uh, .z b.sl, .z b.sh]) : sT_rjoin.asks sP_rjoin (fun ρ e => e.D ρ = sF_rjoin [.z a.ul, .z a.uh, .z a.sl, .z a.sh, .z b.ul, .z b.uh, .z b.sl, .z b.sh]) ρ fun _ _ => False := by
  simp only [varsD, varD, List.cons.injEq, Dt.z.injEq, Dt.l.injEq, b2i_eq_iff, Nat.reduceAdd, and_true] at g
  simp only [sT_rjoin, sP_rjoin, kRg, sF_rmay, sF_rall, sV_rmay, sF_rjoin, sV_rjoin, Tr.asks, upd_same, okDs, okD, eqs, E.I, E.B, E.L, E.R, E.D, E.vs, dI, dB, dL, varD, varsD, List.getElem?_cons_zero, List.getElem?_cons_succ, List.cons_append, List.nil_append, Nat.zero_add, Nat.add_zero, Nat.reduceAdd, and_true, true_and, b2i_one, -eq_self, Pi.eta, Pu.eta, Rg.eta, g]
  intro e; (try simp only [e, Pi.eta, Pu.eta, Rg.eta, -eq_self]); clear e
  refine ⟨fun c0 => ?_, fun c0 => ?_⟩
  intro e; (try simp only [e, Pi.eta, Pu.eta, Rg.eta, -eq_self]); clear e
  refine ⟨fun c1 => ?_, fun c1 => ?_⟩
  (unfold bjoin; simp_all [bjoin0])
  intro e; (try simp only [e, Pi.eta, Pu.eta, Rg.eta, -eq_self]); clear e
  (unfold bjoin; simp_all [bjoin0])
  intro e; (try simp only [e, Pi.eta, Pu.eta, Rg.eta, -eq_self]); clear e
  (unfold bjoin; simp_all [bjoin0])
theorem sK_rjoin {sp : Spec} {key : Nat} (hF : sp.F key = sF_rjoin) (hP : sp.pre key = fun _ => True := by rfl) : SmOk Tryz.prog sp (sM_rjoin key) :=
  fun_ok (s := sM_rjoin key) hF hP (by kernel_rfl) tysok_XbN (smc (sK_rmay rfl) (smc (sK_rall rfl) sm0)) Tryz.func60 sR_rjoin (.inl rfl) (fun x0 gx0 x1 gx1 x2 gx2 x3 gx3 x4 gx4 x5 gx5 x6 gx6 x7 gx7 hp ρ g => sX_rjoin ⟨x0, x1, x2, x3⟩ ⟨gx0, gx1, gx2, gx3⟩ ⟨x4, x5, x6, x7⟩ ⟨gx4, gx5, gx6, gx7⟩ ρ g)
def sM_rmeet (key : Nat) : Sm := ⟨88, key, [.agg kRg, .agg kRg], [.agg kRg, .one .bool], true⟩
def sV_rmeet (a : Rg) (b : Rg) : List Dt := [.z ((bmeet a b).ul), .z ((bmeet a b).uh), .z ((bmeet a b).sl), .z ((bmeet a b).sh), .z (b2i (bmeets a b))]
def sF_rmeet : List Dt → List Dt
  | [.z x0, .z x1, .z x2, .z x3, .z x4, .z x5, .z x6, .z x7] => sV_rmeet ⟨x0, x1, x2, x3⟩ ⟨x4, x5, x6, x7⟩
  | _ => []
def sT_rmeet : Tr :=
(.call 0 ([.bool]) (.vs 0 4 .nil) 8
(.br (.bvar 8)
(.call 0 ([.bool]) (.vs 4 4 .nil) 9
(.br (.bvar 9)
(.call 2 (kRg ++ [.bool]) (.cons (.mx (.var 0) (.var 4)) (.cons (.mn (.var 1) (.var 5)) (.cons (.mx (.var 2) (.var 6)) (.cons (.mn (.var 3) (.var 7)) .nil)))) 10
(.leaf (.vs 10 4 (.consb (.bvar 14) .nil))))
(.call 1 (kRg) .nil 10
(.leaf (.vs 10 4 (.consb (.tt false) .nil))))))
(.call 1 (kRg) .nil 9
(.leaf (.vs 9 4 (.consb (.tt false) .nil))))))
def sP_rmeet : Spec := ⟨fun k => match k with | 0 => sF_rmay | 1 => sF_rall | 2 => sF_rnar | _ => fun _ => [], fun k => match k with | _ => fun _ => True⟩
set_option maxRecDepth 100000 in
theorem sR_rmeet : treeIs tys_XbN [sM_rmay 0, sM_rall 1, sM_rnar 2] [] [] 200 Tryz.f88 [.agg kRg, .agg kRg] [.agg kRg, .one .bool] true [.int .u64, .int .u64, .int .i64, .int .i64, .int .u64, .int .u64, .int .i64, .int .i64] sT_rmeet := ⟨by kernel_rfl, by kernel_rfl, by kernel_rfl⟩
set_option maxRecDepth 100000 in
set_option maxHeartbeats 8000000 in
theorem sX_rmeet (a : Rg) (ha : Rg.ok a) (b : Rg) (hb : Rg.ok b) (ρ : Env) (g : varsD ρ 0 [.int .u64, .int .u64, .int .i64, .int .i64, .int .u64, .int .u64, .int .i64, .int .i64] = [.z a.ul, .z a.uh, .z a.sl, .z a.sh, .z b.ul, .z b.uh, .z b.sl, .z b.sh]) : sT_rmeet.asks sP_rmeet (fun ρ e => e.D ρ = sF_rmeet [.z a.ul, .z a.uh, .z a.sl, .z a.sh, .z b.ul, .z b.uh, .z b.sl, .z b.sh]) ρ fun _ _ => False := by
  simp only [varsD, varD, List.cons.injEq, Dt.z.injEq, Dt.l.injEq, b2i_eq_iff, Nat.reduceAdd, and_true] at g
  simp only [sT_rmeet, sP_rmeet, kRg, sF_rmay, sF_rall, sF_rnar, sV_rmay, sV_rnar, sF_rmeet, sV_rmeet, Tr.asks, upd_same, okDs, okD, eqs, E.I, E.B, E.L, E.R, E.D, E.vs, dI, dB, dL, varD, varsD, List.getElem?_cons_zero, List.getElem?_cons_succ, List.cons_append, List.nil_append, Nat.zero_add, Nat.add_zero, Nat.reduceAdd, and_true, true_and, b2i_one, -eq_self, Pi.eta, Pu.eta, Rg.eta, g]
  intro e; (try simp only [e, Pi.eta, Pu.eta, Rg.eta, -eq_self]); clear e
  refine ⟨fun c0 => ?_, fun c0 => ?_⟩
  intro e; (try simp only [e, Pi.eta, Pu.eta, Rg.eta, -eq_self]); clear e
  refine ⟨fun c1 => ?_, fun c1 => ?_⟩
  intro e; (try simp only [e, Pi.eta, Pu.eta, Rg.eta, -eq_self]); clear e
  (unfold bmeet bmeets; simp_all [bmeet0, bnar_if])
  intro e; (try simp only [e, Pi.eta, Pu.eta, Rg.eta, -eq_self]); clear e
  (unfold bmeet bmeets; simp_all [bmeet0, bnar_if])
  intro e; (try simp only [e, Pi.eta, Pu.eta, Rg.eta, -eq_self]); clear e
  (unfold bmeet bmeets; simp_all [bmeet0, bnar_if])
theorem sK_rmeet {sp : Spec} {key : Nat} (hF : sp.F key = sF_rmeet) (hP : sp.pre key = fun _ => True := by rfl) : SmOk Tryz.prog sp (sM_rmeet key) :=
  fun_ok (s := sM_rmeet key) hF hP (by kernel_rfl) tysok_XbN (smc (sK_rmay rfl) (smc (sK_rall rfl) (smc (sK_rnar rfl) sm0))) Tryz.func88 sR_rmeet (.inl rfl) (fun x0 gx0 x1 gx1 x2 gx2 x3 gx3 x4 gx4 x5 gx5 x6 gx6 x7 gx7 hp ρ g => sX_rmeet ⟨x0, x1, x2, x3⟩ ⟨gx0, gx1, gx2, gx3⟩ ⟨x4, x5, x6, x7⟩ ⟨gx4, gx5, gx6, gx7⟩ ρ g)
def sM_rin (key : Nat) : Sm := ⟨64, key, [.agg kRg, .agg kRg], [.one .bool], false⟩
def sV_rin (a : Rg) (b : Rg) : List Dt := [.z (b2i (bin a b))]
def sF_rin : List Dt → List Dt
  | [.z x0, .z x1, .z x2, .z x3, .z x4, .z x5, .z x6, .z x7] => sV_rin ⟨x0, x1, x2, x3⟩ ⟨x4, x5, x6, x7⟩
  | _ => []
def sT_rin : Tr :=
(.call 0 ([.bool]) (.vs 0 4 .nil) 8
(.br (.bvar 8)
(.call 0 ([.bool]) (.vs 4 4 .nil) 9
(.br (.bvar 9)
(.br (.lt (.var 0) (.var 4))
(.leaf (.consb (.tt false) .nil))
(.br (.lt (.var 5) (.var 1))
(.leaf (.consb (.tt false) .nil))
(.br (.lt (.var 2) (.var 6))
(.leaf (.consb (.tt false) .nil))
(.leaf (.consb (.not (.lt (.var 7) (.var 3))) .nil)))))
(.leaf (.consb (.tt false) .nil))))
(.leaf (.consb (.tt false) .nil))))
def sP_rin : Spec := ⟨fun k => match k with | 0 => sF_rmay | _ => fun _ => [], fun k => match k with | _ => fun _ => True⟩
set_option maxRecDepth 100000 in
theorem sR_rin : treeIs tys_XbN [sM_rmay 0] [] [] 200 Tryz.f64 [.agg kRg, .agg kRg] [.one .bool] false [.int .u64, .int .u64, .int .i64, .int .i64, .int .u64, .int .u64, .int .i64, .int .i64] sT_rin := ⟨by kernel_rfl, by kernel_rfl, by kernel_rfl⟩
set_option maxRecDepth 100000 in
set_option maxHeartbeats 8000000 in
theorem sX_rin (a : Rg) (ha : Rg.ok a) (b : Rg) (hb : Rg.ok b) (ρ : Env) (g : varsD ρ 0 [.int .u64, .int .u64, .int .i64, .int .i64, .int .u64, .int .u64, .int .i64, .int .i64] = [.z a.ul, .z a.uh, .z a.sl, .z a.sh, .z b.ul, .z b.uh, .z b.sl, .z b.sh]) : sT_rin.asks sP_rin (fun ρ e => e.D ρ = sF_rin [.z a.ul, .z a.uh, .z a.sl, .z a.sh, .z b.ul, .z b.uh, .z b.sl, .z b.sh]) ρ fun _ _ => False := by
  simp only [varsD, varD, List.cons.injEq, Dt.z.injEq, Dt.l.injEq, b2i_eq_iff, Nat.reduceAdd, and_true] at g
  simp only [sT_rin, sP_rin, sF_rmay, sV_rmay, sF_rin, sV_rin, Tr.asks, upd_same, okDs, okD, eqs, E.I, E.B, E.L, E.R, E.D, E.vs, dI, dB, dL, varD, varsD, List.getElem?_cons_zero, List.getElem?_cons_succ, List.cons_append, List.nil_append, Nat.zero_add, Nat.add_zero, Nat.reduceAdd, and_true, true_and, b2i_one, -eq_self, Pi.eta, Pu.eta, Rg.eta, g]
  intro e; (try simp only [e, Pi.eta, Pu.eta, Rg.eta, -eq_self]); clear e
  refine ⟨fun c0 => ?_, fun c0 => ?_⟩
  intro e; (try simp only [e, Pi.eta, Pu.eta, Rg.eta, -eq_self]); clear e
  refine ⟨fun c1 => ?_, fun c1 => ?_⟩
  refine ⟨fun c2 => ?_, fun c2 => ?_⟩
  (refine zb ?_; rw [Bool.eq_iff_iff, bin_iff]; simp_all [not_lt_le]; try omega)
  refine ⟨fun c3 => ?_, fun c3 => ?_⟩
  (refine zb ?_; rw [Bool.eq_iff_iff, bin_iff]; simp_all [not_lt_le]; try omega)
  refine ⟨fun c4 => ?_, fun c4 => ?_⟩
  (refine zb ?_; rw [Bool.eq_iff_iff, bin_iff]; simp_all [not_lt_le]; try omega)
  (refine zb ?_; rw [Bool.eq_iff_iff, bin_iff]; simp_all [not_lt_le]; try omega)
  (refine zb ?_; rw [Bool.eq_iff_iff, bin_iff]; simp_all [not_lt_le]; try omega)
  (refine zb ?_; rw [Bool.eq_iff_iff, bin_iff]; simp_all [not_lt_le]; try omega)
theorem sK_rin {sp : Spec} {key : Nat} (hF : sp.F key = sF_rin) (hP : sp.pre key = fun _ => True := by rfl) : SmOk Tryz.prog sp (sM_rin key) :=
  fun_ok (s := sM_rin key) hF hP (by kernel_rfl) tysok_XbN (smc (sK_rmay rfl) sm0) Tryz.func64 sR_rin (.inl rfl) (fun x0 gx0 x1 gx1 x2 gx2 x3 gx3 x4 gx4 x5 gx5 x6 gx6 x7 gx7 hp ρ g => sX_rin ⟨x0, x1, x2, x3⟩ ⟨gx0, gx1, gx2, gx3⟩ ⟨x4, x5, x6, x7⟩ ⟨gx4, gx5, gx6, gx7⟩ ρ g)
def sM_rplus (key : Nat) : Sm := ⟨122, key, [.one (.int .i64), .one (.int .i64)], [.one (.int .i64), .one .bool], true⟩
def sV_rplus (a : Int) (b : Int) : List Dt := [.z (IntKind.i64.wrap (a + b)), .z (b2i (decide (-9223372036854775808 ≤ a + b ∧ a + b ≤ 9223372036854775807)))]
def sF_rplus : List Dt → List Dt
  | [.z x0, .z x1] => sV_rplus x0 x1
  | _ => []
def sT_rplus : Tr :=
(.br (.beq (.lt (.var 0) (.lit 0)) (.lt (.var 1) (.lit 0)))
(.leaf (.cons (.bin .add .i64 (.var 0) (.var 1)) (.consb (.beq (.lt (.bin .add .i64 (.var 0) (.var 1)) (.lit 0)) (.lt (.var 0) (.lit 0))) .nil)))
(.leaf (.cons (.bin .add .i64 (.var 0) (.var 1)) (.consb (.tt true) .nil))))
def sP_rplus : Spec := ⟨fun k => match k with | _ => fun _ => [], fun k => match k with | _ => fun _ => True⟩
set_option maxRecDepth 100000 in
theorem sR_rplus : treeIs tys_XbN [] [] [] 200 Tryz.f122 [.one (.int .i64), .one (.int .i64)] [.one (.int .i64), .one .bool] true [.int .i64, .int .i64] sT_rplus := ⟨by kernel_rfl, by kernel_rfl, by kernel_rfl⟩
set_option maxRecDepth 100000 in
set_option maxHeartbeats 8000000 in
theorem sX_rplus (a : Int) (ha : inK .i64 a = true) (b : Int) (hb : inK .i64 b = true) (ρ : Env) (g : varsD ρ 0 [.int .i64, .int .i64] = [.z a, .z b]) : sT_rplus.asks sP_rplus (fun ρ e => e.D ρ = sF_rplus [.z a, .z b]) ρ fun _ _ => False := by
  simp only [varsD, varD, List.cons.injEq, Dt.z.injEq, Dt.l.injEq, b2i_eq_iff, Nat.reduceAdd, and_true] at g
  simp only [sT_rplus, sP_rplus, sF_rplus, sV_rplus, Tr.asks, upd_same, okDs, okD, eqs, E.I, E.B, E.L, E.R, E.D, E.vs, dI, dB, dL, varD, varsD, List.getElem?_cons_zero, List.getElem?_cons_succ, List.cons_append, List.nil_append, Nat.zero_add, Nat.add_zero, Nat.reduceAdd, and_true, true_and, b2i_one, -eq_self, g]
  refine ⟨fun c0 => ?_, fun c0 => ?_⟩
  (rw [rplus_same ha hb c0]; try rfl)
  (rw [← rplus_diff ha hb c0]; try rfl)
theorem sK_rplus {sp : Spec} {key : Nat} (hF : sp.F key = sF_rplus) (hP : sp.pre key = fun _ => True := by rfl) : SmOk Tryz.prog sp (sM_rplus key) :=
  fun_ok (s := sM_rplus key) hF hP (by kernel_rfl) tysok_XbN (sm0) Tryz.func122 sR_rplus (.inl rfl) (fun x0 gx0 x1 gx1 hp ρ g => sX_rplus x0 gx0 x1 gx1 ρ g)
def sM_rminus (key : Nat) : Sm := ⟨123, key, [.one (.int .i64), .one (.int .i64)], [.one (.int .i64), .one .bool], true⟩
def sV_rminus (a : Int) (b : Int) : List Dt := [.z (IntKind.i64.wrap (a - b)), .z (b2i (decide (-9223372036854775808 ≤ a - b ∧ a - b ≤ 9223372036854775807)))]
def sF_rminus : List Dt → List Dt
  | [.z x0, .z x1] => sV_rminus x0 x1
  | _ => []
def sT_rminus : Tr :=
(.br (.beq (.lt (.var 0) (.lit 0)) (.lt (.var 1) (.lit 0)))
(.leaf (.cons (.bin .sub .i64 (.var 0) (.var 1)) (.consb (.tt true) .nil)))
(.leaf (.cons (.bin .sub .i64 (.var 0) (.var 1)) (.consb (.beq (.lt (.bin .sub .i64 (.var 0) (.var 1)) (.lit 0)) (.lt (.var 0) (.lit 0))) .nil))))
def sP_rminus : Spec := ⟨fun k => match k with | _ => fun _ => [], fun k => match k with | _ => fun _ => True⟩
set_option maxRecDepth 100000 in
theorem sR_rminus : treeIs tys_XbN [] [] [] 200 Tryz.f123 [.one (.int .i64), .one (.int .i64)] [.one (.int .i64), .one .bool] true [.int .i64, .int .i64] sT_rminus := ⟨by kernel_rfl, by kernel_rfl, by kernel_rfl⟩
set_option maxRecDepth 100000 in
set_option maxHeartbeats 8000000 in
theorem sX_rminus (a : Int) (ha : inK .i64 a = true) (b : Int) (hb : inK .i64 b = true) (ρ : Env) (g : varsD ρ 0 [.int .i64, .int .i64] = [.z a, .z b]) : sT_rminus.asks sP_rminus (fun ρ e => e.D ρ = sF_rminus [.z a, .z b]) ρ fun _ _ => False := by
  simp only [varsD, varD, List.cons.injEq, Dt.z.injEq, Dt.l.injEq, b2i_eq_iff, Nat.reduceAdd, and_true] at g
  simp only [sT_rminus, sP_rminus, sF_rminus, sV_rminus, Tr.asks, upd_same, okDs, okD, eqs, E.I, E.B, E.L, E.R, E.D, E.vs, dI, dB, dL, varD, varsD, List.getElem?_cons_zero, List.getElem?_cons_succ, List.cons_append, List.nil_append, Nat.zero_add, Nat.add_zero, Nat.reduceAdd, and_true, true_and, b2i_one, -eq_self, g]
  refine ⟨fun c0 => ?_, fun c0 => ?_⟩
  (rw [← rminus_same ha hb c0]; try rfl)
  (rw [rminus_diff ha hb c0]; try rfl)
theorem sK_rminus {sp : Spec} {key : Nat} (hF : sp.F key = sF_rminus) (hP : sp.pre key = fun _ => True := by rfl) : SmOk Tryz.prog sp (sM_rminus key) :=
  fun_ok (s := sM_rminus key) hF hP (by kernel_rfl) tysok_XbN (sm0) Tryz.func123 sR_rminus (.inl rfl) (fun x0 gx0 x1 gx1 hp ρ g => sX_rminus x0 gx0 x1 gx1 ρ g)
def sM_rfill (key : Nat) : Sm := ⟨124, key, [.one (.int .u64)], [.one (.int .u64)], false⟩
def sV_rfill (v : Int) : List Dt := [.z (bfill v)]
def sF_rfill : List Dt → List Dt
  | [.z x0] => sV_rfill x0
  | _ => []
def sT_rfill : Tr :=
(.br (.lt (.lit 0) (.var 0))
(.br (.lt (.lit 1) (.var 0))
(.br (.lt (.lit 3) (.var 0))
(.br (.lt (.lit 7) (.var 0))
(.br (.lt (.lit 15) (.var 0))
(.br (.lt (.lit 31) (.var 0))
(.br (.lt (.lit 63) (.var 0))
(.br (.lt (.lit 127) (.var 0))
(.br (.lt (.lit 255) (.var 0))
(.br (.lt (.lit 511) (.var 0))
(.br (.lt (.lit 1023) (.var 0))
(.br (.lt (.lit 2047) (.var 0))
(.br (.lt (.lit 4095) (.var 0))
(.br (.lt (.lit 8191) (.var 0))
(.br (.lt (.lit 16383) (.var 0))
(.br (.lt (.lit 32767) (.var 0))
(.br (.lt (.lit 65535) (.var 0))
(.br (.lt (.lit 131071) (.var 0))
(.br (.lt (.lit 262143) (.var 0))
(.br (.lt (.lit 524287) (.var 0))
(.br (.lt (.lit 1048575) (.var 0))
(.br (.lt (.lit 2097151) (.var 0))
(.br (.lt (.lit 4194303) (.var 0))
(.br (.lt (.lit 8388607) (.var 0))
(.br (.lt (.lit 16777215) (.var 0))
(.br (.lt (.lit 33554431) (.var 0))
(.br (.lt (.lit 67108863) (.var 0))
(.br (.lt (.lit 134217727) (.var 0))
(.br (.lt (.lit 268435455) (.var 0))
(.br (.lt (.lit 536870911) (.var 0))
(.br (.lt (.lit 1073741823) (.var 0))
(.br (.lt (.lit 2147483647) (.var 0))
(.br (.lt (.lit 4294967295) (.var 0))
(.br (.lt (.lit 8589934591) (.var 0))
(.br (.lt (.lit 17179869183) (.var 0))
(.br (.lt (.lit 34359738367) (.var 0))
(.br (.lt (.lit 68719476735) (.var 0))
(.br (.lt (.lit 137438953471) (.var 0))
(.br (.lt (.lit 274877906943) (.var 0))
(.br (.lt (.lit 549755813887) (.var 0))
(.br (.lt (.lit 1099511627775) (.var 0))
(.br (.lt (.lit 2199023255551) (.var 0))
(.br (.lt (.lit 4398046511103) (.var 0))
(.br (.lt (.lit 8796093022207) (.var 0))
(.br (.lt (.lit 17592186044415) (.var 0))
(.br (.lt (.lit 35184372088831) (.var 0))
(.br (.lt (.lit 70368744177663) (.var 0))
(.br (.lt (.lit 140737488355327) (.var 0))
(.br (.lt (.lit 281474976710655) (.var 0))
(.br (.lt (.lit 562949953421311) (.var 0))
(.br (.lt (.lit 1125899906842623) (.var 0))
(.br (.lt (.lit 2251799813685247) (.var 0))
(.br (.lt (.lit 4503599627370495) (.var 0))
(.br (.lt (.lit 9007199254740991) (.var 0))
(.br (.lt (.lit 18014398509481983) (.var 0))
(.br (.lt (.lit 36028797018963967) (.var 0))
(.br (.lt (.lit 72057594037927935) (.var 0))
(.br (.lt (.lit 144115188075855871) (.var 0))
(.br (.lt (.lit 288230376151711743) (.var 0))
(.br (.lt (.lit 576460752303423487) (.var 0))
(.br (.lt (.lit 1152921504606846975) (.var 0))
(.br (.lt (.lit 2305843009213693951) (.var 0))
(.br (.lt (.lit 4611686018427387903) (.var 0))
(.br (.lt (.lit 9223372036854775807) (.var 0))
(.leaf (.cons (.lit 18446744073709551615) .nil))
(.leaf (.cons (.lit 9223372036854775807) .nil)))
(.leaf (.cons (.lit 4611686018427387903) .nil)))
(.leaf (.cons (.lit 2305843009213693951) .nil)))
(.leaf (.cons (.lit 1152921504606846975) .nil)))
(.leaf (.cons (.lit 576460752303423487) .nil)))
(.leaf (.cons (.lit 288230376151711743) .nil)))
(.leaf (.cons (.lit 144115188075855871) .nil)))
(.leaf (.cons (.lit 72057594037927935) .nil)))
(.leaf (.cons (.lit 36028797018963967) .nil)))
(.leaf (.cons (.lit 18014398509481983) .nil)))
(.leaf (.cons (.lit 9007199254740991) .nil)))
(.leaf (.cons (.lit 4503599627370495) .nil)))
(.leaf (.cons (.lit 2251799813685247) .nil)))
(.leaf (.cons (.lit 1125899906842623) .nil)))
(.leaf (.cons (.lit 562949953421311) .nil)))
(.leaf (.cons (.lit 281474976710655) .nil)))
(.leaf (.cons (.lit 140737488355327) .nil)))
(.leaf (.cons (.lit 70368744177663) .nil)))
(.leaf (.cons (.lit 35184372088831) .nil)))
(.leaf (.cons (.lit 17592186044415) .nil)))
(.leaf (.cons (.lit 8796093022207) .nil)))
(.leaf (.cons (.lit 4398046511103) .nil)))
(.leaf (.cons (.lit 2199023255551) .nil)))
(.leaf (.cons (.lit 1099511627775) .nil)))
(.leaf (.cons (.lit 549755813887) .nil)))
(.leaf (.cons (.lit 274877906943) .nil)))
(.leaf (.cons (.lit 137438953471) .nil)))
(.leaf (.cons (.lit 68719476735) .nil)))
(.leaf (.cons (.lit 34359738367) .nil)))
(.leaf (.cons (.lit 17179869183) .nil)))
(.leaf (.cons (.lit 8589934591) .nil)))
(.leaf (.cons (.lit 4294967295) .nil)))
(.leaf (.cons (.lit 2147483647) .nil)))
(.leaf (.cons (.lit 1073741823) .nil)))
(.leaf (.cons (.lit 536870911) .nil)))
(.leaf (.cons (.lit 268435455) .nil)))
(.leaf (.cons (.lit 134217727) .nil)))
(.leaf (.cons (.lit 67108863) .nil)))
(.leaf (.cons (.lit 33554431) .nil)))
(.leaf (.cons (.lit 16777215) .nil)))
(.leaf (.cons (.lit 8388607) .nil)))
(.leaf (.cons (.lit 4194303) .nil)))
(.leaf (.cons (.lit 2097151) .nil)))
(.leaf (.cons (.lit 1048575) .nil)))
(.leaf (.cons (.lit 524287) .nil)))
(.leaf (.cons (.lit 262143) .nil)))
(.leaf (.cons (.lit 131071) .nil)))
(.leaf (.cons (.lit 65535) .nil)))
(.leaf (.cons (.lit 32767) .nil)))
(.leaf (.cons (.lit 16383) .nil)))
(.leaf (.cons (.lit 8191) .nil)))
(.leaf (.cons (.lit 4095) .nil)))
(.leaf (.cons (.lit 2047) .nil)))
(.leaf (.cons (.lit 1023) .nil)))
(.leaf (.cons (.lit 511) .nil)))
(.leaf (.cons (.lit 255) .nil)))
(.leaf (.cons (.lit 127) .nil)))
(.leaf (.cons (.lit 63) .nil)))
(.leaf (.cons (.lit 31) .nil)))
(.leaf (.cons (.lit 15) .nil)))
(.leaf (.cons (.lit 7) .nil)))
(.leaf (.cons (.lit 3) .nil)))
(.leaf (.cons (.lit 1) .nil)))
(.leaf (.cons (.lit 0) .nil)))
def sP_rfill : Spec := ⟨fun k => match k with | _ => fun _ => [], fun k => match k with | _ => fun _ => True⟩
set_option maxRecDepth 100000 in
theorem sR_rfill : treeIs tys_XbN [] [] [] 400 Tryz.f124 [.one (.int .u64)] [.one (.int .u64)] false [.int .u64] sT_rfill := ⟨by kernel_rfl, by kernel_rfl, by kernel_rfl⟩
set_option maxRecDepth 100000 in
set_option maxHeartbeats 8000000 in
theorem sX_rfill (v : Int) (hv : inK .u64 v = true) (ρ : Env) (g : varsD ρ 0 [.int .u64] = [.z v]) : sT_rfill.asks sP_rfill (fun ρ e => e.D ρ = sF_rfill [.z v]) ρ fun _ _ => False := by
  simp only [varsD, varD, List.cons.injEq, Dt.z.injEq, Dt.l.injEq, b2i_eq_iff, Nat.reduceAdd, and_true] at g
  simp only [sT_rfill, sP_rfill, sF_rfill, sV_rfill, Tr.asks, upd_same, okDs, okD, eqs, E.I, E.B, E.L, E.R, E.D, E.vs, dI, dB, dL, varD, varsD, List.getElem?_cons_zero, List.getElem?_cons_succ, List.cons_append, List.nil_append, Nat.zero_add, Nat.add_zero, Nat.reduceAdd, and_true, true_and, b2i_one, -eq_self, g]
  refine ⟨fun c0 => ?_, fun c0 => ?_⟩
  refine ⟨fun c1 => ?_, fun c1 => ?_⟩
  refine ⟨fun c2 => ?_, fun c2 => ?_⟩
  refine ⟨fun c3 => ?_, fun c3 => ?_⟩
  refine ⟨fun c4 => ?_, fun c4 => ?_⟩
  refine ⟨fun c5 => ?_, fun c5 => ?_⟩
  refine ⟨fun c6 => ?_, fun c6 => ?_⟩
  refine ⟨fun c7 => ?_, fun c7 => ?_⟩
  refine ⟨fun c8 => ?_, fun c8 => ?_⟩
  refine ⟨fun c9 => ?_, fun c9 => ?_⟩
  refine ⟨fun c10 => ?_, fun c10 => ?_⟩
  refine ⟨fun c11 => ?_, fun c11 => ?_⟩
  refine ⟨fun c12 => ?_, fun c12 => ?_⟩
  refine ⟨fun c13 => ?_, fun c13 => ?_⟩
  refine ⟨fun c14 => ?_, fun c14 => ?_⟩
  refine ⟨fun c15 => ?_, fun c15 => ?_⟩
  refine ⟨fun c16 => ?_, fun c16 => ?_⟩
  refine ⟨fun c17 => ?_, fun c17 => ?_⟩
  refine ⟨fun c18 => ?_, fun c18 => ?_⟩
  refine ⟨fun c19 => ?_, fun c19 => ?_⟩
  refine ⟨fun c20 => ?_, fun c20 => ?_⟩
  refine ⟨fun c21 => ?_, fun c21 => ?_⟩
  refine ⟨fun c22 => ?_, fun c22 => ?_⟩
  refine ⟨fun c23 => ?_, fun c23 => ?_⟩
  refine ⟨fun c24 => ?_, fun c24 => ?_⟩
  refine ⟨fun c25 => ?_, fun c25 => ?_⟩
  refine ⟨fun c26 => ?_, fun c26 => ?_⟩
  refine ⟨fun c27 => ?_, fun c27 => ?_⟩
  refine ⟨fun c28 => ?_, fun c28 => ?_⟩
  refine ⟨fun c29 => ?_, fun c29 => ?_⟩
  refine ⟨fun c30 => ?_, fun c30 => ?_⟩
  refine ⟨fun c31 => ?_, fun c31 => ?_⟩
  refine ⟨fun c32 => ?_, fun c32 => ?_⟩
  refine ⟨fun c33 => ?_, fun c33 => ?_⟩
  refine ⟨fun c34 => ?_, fun c34 => ?_⟩
  refine ⟨fun c35 => ?_, fun c35 => ?_⟩
  refine ⟨fun c36 => ?_, fun c36 => ?_⟩
  refine ⟨fun c37 => ?_, fun c37 => ?_⟩
  refine ⟨fun c38 => ?_, fun c38 => ?_⟩
  refine ⟨fun c39 => ?_, fun c39 => ?_⟩
  refine ⟨fun c40 => ?_, fun c40 => ?_⟩
  refine ⟨fun c41 => ?_, fun c41 => ?_⟩
  refine ⟨fun c42 => ?_, fun c42 => ?_⟩
  refine ⟨fun c43 => ?_, fun c43 => ?_⟩
  refine ⟨fun c44 => ?_, fun c44 => ?_⟩
  refine ⟨fun c45 => ?_, fun c45 => ?_⟩
  refine ⟨fun c46 => ?_, fun c46 => ?_⟩
  refine ⟨fun c47 => ?_, fun c47 => ?_⟩
  refine ⟨fun c48 => ?_, fun c48 => ?_⟩
  refine ⟨fun c49 => ?_, fun c49 => ?_⟩
  refine ⟨fun c50 => ?_, fun c50 => ?_⟩
  refine ⟨fun c51 => ?_, fun c51 => ?_⟩
  refine ⟨fun c52 => ?_, fun c52 => ?_⟩
  refine ⟨fun c53 => ?_, fun c53 => ?_⟩
  refine ⟨fun c54 => ?_, fun c54 => ?_⟩
  refine ⟨fun c55 => ?_, fun c55 => ?_⟩
  refine ⟨fun c56 => ?_, fun c56 => ?_⟩
  refine ⟨fun c57 => ?_, fun c57 => ?_⟩
  refine ⟨fun c58 => ?_, fun c58 => ?_⟩
  refine ⟨fun c59 => ?_, fun c59 => ?_⟩
  refine ⟨fun c60 => ?_, fun c60 => ?_⟩
  refine ⟨fun c61 => ?_, fun c61 => ?_⟩
  refine ⟨fun c62 => ?_, fun c62 => ?_⟩
  refine ⟨fun c63 => ?_, fun c63 => ?_⟩
  exact zi (rf 63 (by decide) (by decide) (Int.add_one_le_of_lt (of_decide_eq_true c63)) (inK_u64 hv).2)
  exact zi (rf 62 (by decide) (by decide) (Int.add_one_le_of_lt (of_decide_eq_true c62)) (Int.not_lt.1 (of_decide_eq_false c63)))
  exact zi (rf 61 (by decide) (by decide) (Int.add_one_le_of_lt (of_decide_eq_true c61)) (Int.not_lt.1 (of_decide_eq_false c62)))
  exact zi (rf 60 (by decide) (by decide) (Int.add_one_le_of_lt (of_decide_eq_true c60)) (Int.not_lt.1 (of_decide_eq_false c61)))
  exact zi (rf 59 (by decide) (by decide) (Int.add_one_le_of_lt (of_decide_eq_true c59)) (Int.not_lt.1 (of_decide_eq_false c60)))
  exact zi (rf 58 (by decide) (by decide) (Int.add_one_le_of_lt (of_decide_eq_true c58)) (Int.not_lt.1 (of_decide_eq_false c59)))
  exact zi (rf 57 (by decide) (by decide) (Int.add_one_le_of_lt (of_decide_eq_true c57)) (Int.not_lt.1 (of_decide_eq_false c58)))
  exact zi (rf 56 (by decide) (by decide) (Int.add_one_le_of_lt (of_decide_eq_true c56)) (Int.not_lt.1 (of_decide_eq_false c57)))
  exact zi (rf 55 (by decide) (by decide) (Int.add_one_le_of_lt (of_decide_eq_true c55)) (Int.not_lt.1 (of_decide_eq_false c56)))
  exact zi (rf 54 (by decide) (by decide) (Int.add_one_le_of_lt (of_decide_eq_true c54)) (Int.not_lt.1 (of_decide_eq_false c55)))
  exact zi (rf 53 (by decide) (by decide) (Int.add_one_le_of_lt (of_decide_eq_true c53)) (Int.not_lt.1 (of_decide_eq_false c54)))
  exact zi (rf 52 (by decide) (by decide) (Int.add_one_le_of_lt (of_decide_eq_true c52)) (Int.not_lt.1 (of_decide_eq_false c53)))
  exact zi (rf 51 (by decide) (by decide) (Int.add_one_le_of_lt (of_decide_eq_true c51)) (Int.not_lt.1 (of_decide_eq_false c52)))
  exact zi (rf 50 (by decide) (by decide) (Int.add_one_le_of_lt (of_decide_eq_true c50)) (Int.not_lt.1 (of_decide_eq_false c51)))
  exact zi (rf 49 (by decide) (by decide) (Int.add_one_le_of_lt (of_decide_eq_true c49)) (Int.not_lt.1 (of_decide_eq_false c50)))
  exact zi (rf 48 (by decide) (by decide) (Int.add_one_le_of_lt (of_decide_eq_true c48)) (Int.not_lt.1 (of_decide_eq_false c49)))
  exact zi (rf 47 (by decide) (by decide) (Int.add_one_le_of_lt (of_decide_eq_true c47)) (Int.not_lt.1 (of_decide_eq_false c48)))
  exact zi (rf 46 (by decide) (by decide) (Int.add_one_le_of_lt (of_decide_eq_true c46)) (Int.not_lt.1 (of_decide_eq_false c47)))
  exact zi (rf 45 (by decide) (by decide) (Int.add_one_le_of_lt (of_decide_eq_true c45)) (Int.not_lt.1 (of_decide_eq_false c46)))
  exact zi (rf 44 (by decide) (by decide) (Int.add_one_le_of_lt (of_decide_eq_true c44)) (Int.not_lt.1 (of_decide_eq_false c45)))
  exact zi (rf 43 (by decide) (by decide) (Int.add_one_le_of_lt (of_decide_eq_true c43)) (Int.not_lt.1 (of_decide_eq_false c44)))
  exact zi (rf 42 (by decide) (by decide) (Int.add_one_le_of_lt (of_decide_eq_true c42)) (Int.not_lt.1 (of_decide_eq_false c43)))
  exact zi (rf 41 (by decide) (by decide) (Int.add_one_le_of_lt (of_decide_eq_true c41)) (Int.not_lt.1 (of_decide_eq_false c42)))
  exact zi (rf 40 (by decide) (by decide) (Int.add_one_le_of_lt (of_decide_eq_true c40)) (Int.not_lt.1 (of_decide_eq_false c41)))
  exact zi (rf 39 (by decide) (by decide) (Int.add_one_le_of_lt (of_decide_eq_true c39)) (Int.not_lt.1 (of_decide_eq_false c40)))
  exact zi (rf 38 (by decide) (by decide) (Int.add_one_le_of_lt (of_decide_eq_true c38)) (Int.not_lt.1 (of_decide_eq_false c39)))
  exact zi (rf 37 (by decide) (by decide) (Int.add_one_le_of_lt (of_decide_eq_true c37)) (Int.not_lt.1 (of_decide_eq_false c38)))
  exact zi (rf 36 (by decide) (by decide) (Int.add_one_le_of_lt (of_decide_eq_true c36)) (Int.not_lt.1 (of_decide_eq_false c37)))
  exact zi (rf 35 (by decide) (by decide) (Int.add_one_le_of_lt (of_decide_eq_true c35)) (Int.not_lt.1 (of_decide_eq_false c36)))
  exact zi (rf 34 (by decide) (by decide) (Int.add_one_le_of_lt (of_decide_eq_true c34)) (Int.not_lt.1 (of_decide_eq_false c35)))
  exact zi (rf 33 (by decide) (by decide) (Int.add_one_le_of_lt (of_decide_eq_true c33)) (Int.not_lt.1 (of_decide_eq_false c34)))
  exact zi (rf 32 (by decide) (by decide) (Int.add_one_le_of_lt (of_decide_eq_true c32)) (Int.not_lt.1 (of_decide_eq_false c33)))
  exact zi (rf 31 (by decide) (by decide) (Int.add_one_le_of_lt (of_decide_eq_true c31)) (Int.not_lt.1 (of_decide_eq_false c32)))
  exact zi (rf 30 (by decide) (by decide) (Int.add_one_le_of_lt (of_decide_eq_true c30)) (Int.not_lt.1 (of_decide_eq_false c31)))
  exact zi (rf 29 (by decide) (by decide) (Int.add_one_le_of_lt (of_decide_eq_true c29)) (Int.not_lt.1 (of_decide_eq_false c30)))
  exact zi (rf 28 (by decide) (by decide) (Int.add_one_le_of_lt (of_decide_eq_true c28)) (Int.not_lt.1 (of_decide_eq_false c29)))
  exact zi (rf 27 (by decide) (by decide) (Int.add_one_le_of_lt (of_decide_eq_true c27)) (Int.not_lt.1 (of_decide_eq_false c28)))
  exact zi (rf 26 (by decide) (by decide) (Int.add_one_le_of_lt (of_decide_eq_true c26)) (Int.not_lt.1 (of_decide_eq_false c27)))
  exact zi (rf 25 (by decide) (by decide) (Int.add_one_le_of_lt (of_decide_eq_true c25)) (Int.not_lt.1 (of_decide_eq_false c26)))
  exact zi (rf 24 (by decide) (by decide) (Int.add_one_le_of_lt (of_decide_eq_true c24)) (Int.not_lt.1 (of_decide_eq_false c25)))
  exact zi (rf 23 (by decide) (by decide) (Int.add_one_le_of_lt (of_decide_eq_true c23)) (Int.not_lt.1 (of_decide_eq_false c24)))
  exact zi (rf 22 (by decide) (by decide) (Int.add_one_le_of_lt (of_decide_eq_true c22)) (Int.not_lt.1 (of_decide_eq_false c23)))
  exact zi (rf 21 (by decide) (by decide) (Int.add_one_le_of_lt (of_decide_eq_true c21)) (Int.not_lt.1 (of_decide_eq_false c22)))
  exact zi (rf 20 (by decide) (by decide) (Int.add_one_le_of_lt (of_decide_eq_true c20)) (Int.not_lt.1 (of_decide_eq_false c21)))
  exact zi (rf 19 (by decide) (by decide) (Int.add_one_le_of_lt (of_decide_eq_true c19)) (Int.not_lt.1 (of_decide_eq_false c20)))
  exact zi (rf 18 (by decide) (by decide) (Int.add_one_le_of_lt (of_decide_eq_true c18)) (Int.not_lt.1 (of_decide_eq_false c19)))
  exact zi (rf 17 (by decide) (by decide) (Int.add_one_le_of_lt (of_decide_eq_true c17)) (Int.not_lt.1 (of_decide_eq_false c18)))
  exact zi (rf 16 (by decide) (by decide) (Int.add_one_le_of_lt (of_decide_eq_true c16)) (Int.not_lt.1 (of_decide_eq_false c17)))
  exact zi (rf 15 (by decide) (by decide) (Int.add_one_le_of_lt (of_decide_eq_true c15)) (Int.not_lt.1 (of_decide_eq_false c16)))
  exact zi (rf 14 (by decide) (by decide) (Int.add_one_le_of_lt (of_decide_eq_true c14)) (Int.not_lt.1 (of_decide_eq_false c15)))
  exact zi (rf 13 (by decide) (by decide) (Int.add_one_le_of_lt (of_decide_eq_true c13)) (Int.not_lt.1 (of_decide_eq_false c14)))
  exact zi (rf 12 (by decide) (by decide) (Int.add_one_le_of_lt (of_decide_eq_true c12)) (Int.not_lt.1 (of_decide_eq_false c13)))
  exact zi (rf 11 (by decide) (by decide) (Int.add_one_le_of_lt (of_decide_eq_true c11)) (Int.not_lt.1 (of_decide_eq_false c12)))
  exact zi (rf 10 (by decide) (by decide) (Int.add_one_le_of_lt (of_decide_eq_true c10)) (Int.not_lt.1 (of_decide_eq_false c11)))
  exact zi (rf 9 (by decide) (by decide) (Int.add_one_le_of_lt (of_decide_eq_true c9)) (Int.not_lt.1 (of_decide_eq_false c10)))
  exact zi (rf 8 (by decide) (by decide) (Int.add_one_le_of_lt (of_decide_eq_true c8)) (Int.not_lt.1 (of_decide_eq_false c9)))
  exact zi (rf 7 (by decide) (by decide) (Int.add_one_le_of_lt (of_decide_eq_true c7)) (Int.not_lt.1 (of_decide_eq_false c8)))
  exact zi (rf 6 (by decide) (by decide) (Int.add_one_le_of_lt (of_decide_eq_true c6)) (Int.not_lt.1 (of_decide_eq_false c7)))
  exact zi (rf 5 (by decide) (by decide) (Int.add_one_le_of_lt (of_decide_eq_true c5)) (Int.not_lt.1 (of_decide_eq_false c6)))
  exact zi (rf 4 (by decide) (by decide) (Int.add_one_le_of_lt (of_decide_eq_true c4)) (Int.not_lt.1 (of_decide_eq_false c5)))
  exact zi (rf 3 (by decide) (by decide) (Int.add_one_le_of_lt (of_decide_eq_true c3)) (Int.not_lt.1 (of_decide_eq_false c4)))
  exact zi (rf 2 (by decide) (by decide) (Int.add_one_le_of_lt (of_decide_eq_true c2)) (Int.not_lt.1 (of_decide_eq_false c3)))
  exact zi (rf 1 (by decide) (by decide) (Int.add_one_le_of_lt (of_decide_eq_true c1)) (Int.not_lt.1 (of_decide_eq_false c2)))
  exact zi (rf 0 (by decide) (by decide) (Int.add_one_le_of_lt (of_decide_eq_true c0)) (Int.not_lt.1 (of_decide_eq_false c1)))
  exact zi (rf0 (inK_u64 hv).1 (Int.not_lt.1 (of_decide_eq_false c0)))
theorem sK_rfill {sp : Spec} {key : Nat} (hF : sp.F key = sF_rfill) (hP : sp.pre key = fun _ => True := by rfl) : SmOk Tryz.prog sp (sM_rfill key) :=
  fun_ok (s := sM_rfill key) hF hP (by kernel_rfl) tysok_XbN (sm0) Tryz.func124 sR_rfill (.inl rfl) (fun x0 gx0 hp ρ g => sX_rfill x0 gx0 ρ g)
def sM_rlow (key : Nat) : Sm := ⟨76, key, [.agg kRg], [.agg kRg], false⟩
def sV_rlow (a : Rg) : List Dt := [.z ((blow a).ul), .z ((blow a).uh), .z ((blow a).sl), .z ((blow a).sh)]
def sF_rlow : List Dt → List Dt
  | [.z x0, .z x1, .z x2, .z x3] => sV_rlow ⟨x0, x1, x2, x3⟩
  | _ => []
def sT_rlow : Tr :=
(.call 0 ([.bool]) (.vs 0 4 .nil) 4
(.br (.bvar 4)
(.br (.lt (.var 1) (.lit 4294967296))
(.leaf (.vs 0 4 .nil))
(.call 1 (kRg) (.cons (.lit 0) (.cons (.lit 4294967295) (.cons (.lit (-9223372036854775808)) (.cons (.lit 9223372036854775807) .nil)))) 5
(.leaf (.vs 5 4 .nil))))
(.call 1 (kRg) (.cons (.lit 0) (.cons (.lit 4294967295) (.cons (.lit (-9223372036854775808)) (.cons (.lit 9223372036854775807) .nil)))) 5
(.leaf (.vs 5 4 .nil)))))
def sP_rlow : Spec := ⟨fun k => match k with | 0 => sF_rmay | 1 => sF_rnard | _ => fun _ => [], fun k => match k with | _ => fun _ => True⟩
set_option maxRecDepth 100000 in
theorem sR_rlow : treeIs tys_XbN [sM_rmay 0, sM_rnard 1] [] [] 200 Tryz.f76 [.agg kRg] [.agg kRg] false [.int .u64, .int .u64, .int .i64, .int .i64] sT_rlow := ⟨by kernel_rfl, by kernel_rfl, by kernel_rfl⟩
set_option maxRecDepth 100000 in
set_option maxHeartbeats 8000000 in
theorem sX_rlow (a : Rg) (ha : Rg.ok a) (ρ : Env) (g : varsD ρ 0 [.int .u64, .int .u64, .int .i64, .int .i64] = [.z a.ul, .z a.uh, .z a.sl, .z a.sh]) : sT_rlow.asks sP_rlow (fun ρ e => e.D ρ = sF_rlow [.z a.ul, .z a.uh, .z a.sl, .z a.sh]) ρ fun _ _ => False := by
  simp only [varsD, varD, List.cons.injEq, Dt.z.injEq, Dt.l.injEq, b2i_eq_iff, Nat.reduceAdd, and_true] at g
  simp only [sT_rlow, sP_rlow, kRg, sF_rmay, sF_rnard, sV_rmay, sV_rnard, sF_rlow, sV_rlow, Tr.asks, upd_same, okDs, okD, eqs, E.I, E.B, E.L, E.R, E.D, E.vs, dI, dB, dL, varD, varsD, List.getElem?_cons_zero, List.getElem?_cons_succ, List.cons_append, List.nil_append, Nat.zero_add, Nat.add_zero, Nat.reduceAdd, and_true, true_and, b2i_one, -eq_self, Pi.eta, Pu.eta, Rg.eta, g]
  intro e; (try simp only [e, Pi.eta, Pu.eta, Rg.eta, -eq_self]); clear e
  refine ⟨fun c0 => ?_, fun c0 => ?_⟩
  refine ⟨fun c1 => ?_, fun c1 => ?_⟩
  (rw [show blow a = a from if_pos ⟨c0, Int.le_of_lt_add_one (of_decide_eq_true c1)⟩]; try rfl)
  intro e; (try simp only [e, Pi.eta, Pu.eta, Rg.eta, -eq_self]); clear e
  (rw [show blow a = bnar (bu 0 4294967295) from if_neg (fun q => absurd (Int.lt_add_one_of_le q.2) (of_decide_eq_false c1))]; try rfl)
  intro e; (try simp only [e, Pi.eta, Pu.eta, Rg.eta, -eq_self]); clear e
  (rw [show blow a = bnar (bu 0 4294967295) from if_neg (fun q => by rw [c0] at q; exact absurd q.1 (by simp))]; try rfl)
theorem sK_rlow {sp : Spec} {key : Nat} (hF : sp.F key = sF_rlow) (hP : sp.pre key = fun _ => True := by rfl) : SmOk Tryz.prog sp (sM_rlow key) :=
  fun_ok (s := sM_rlow key) hF hP (by kernel_rfl) tysok_XbN (smc (sK_rmay rfl) (smc (sK_rnard rfl) sm0)) Tryz.func76 sR_rlow (.inl rfl) (fun x0 gx0 x1 gx1 x2 gx2 x3 gx3 hp ρ g => sX_rlow ⟨x0, x1, x2, x3⟩ ⟨gx0, gx1, gx2, gx3⟩ ρ g)
end Go.Proofs.YtcfnglbcgkappaaGreat
