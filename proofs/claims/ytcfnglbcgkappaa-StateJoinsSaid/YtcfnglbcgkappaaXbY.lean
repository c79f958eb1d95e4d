/- Texts XbM, XbN, XbO in one. -/
import Derived.Test.YtcfnglbcgkappaaXbZ
import Derived.Test.YtcfnglbcgkappaaProg
import Derived.Laws.Externs
/- What the document's own Do and Given of ranges come to, case by case, as their runs have them: plain laws. -/
set_option linter.unusedSectionVars false
set_option linter.unusedSimpArgs false
set_option linter.unusedVariables false
set_option linter.unusedSimpArgs false
namespace Go.Proofs.Ytcfnglbcgkappaa
open Go Go.RowKit
section
variable {op : Int} {a b : Rg} (ha : a.ok) (hb : b.ok) (ma : bmay a = true) (mb : bmay b = true)
include ha hb
include ma mb
end
section
variable {a b : Rg}
end
end Go.Proofs.Ytcfnglbcgkappaa


/- Contracts of the small functions of the document's own package of layer 7, by the symbolic run. -/
set_option linter.unusedVariables false
set_option linter.unusedSimpArgs false
namespace Go.Proofs.Ytcfnglbcgkappaa
open Go.RowKit Go.ChangeShapes Go.WideShapes

def tys_XbN : List (Nat × TI) := [(2, ⟨false, 1, [.int .i64 (.lit 0)], [], none, some .i64, false, false, none, 8, false⟩),
 (4, ⟨false, 1, [.bool (.tt false)], [], none, none, false, true, none, 1, false⟩),
 (23, ⟨false, 1, [.int .u64 (.lit 0)], [], none, some .u64, false, false, none, 8, false⟩),
 (25, ⟨true, 4, [.int .u64 (.lit 0), .int .u64 (.lit 0), .int .i64 (.lit 0), .int .i64 (.lit 0)], [(0, 23), (1, 23), (2, 2), (3, 2)], none, none, false, false, none, 32, false⟩)]
set_option maxRecDepth 100000 in
theorem tysck_XbN : (tys_XbN.all fun p => ckTI Try.prog p.1 p.2) = true := by kernel_rfl
theorem tysne_XbN : (tys_XbN.all fun p => !p.2.eqok) = true := by kernel_rfl
theorem tysok_XbN : ∀ t i, (t, i) ∈ tys_XbN → TIok Try.prog t i := by
  intro t i h
  have h1 := all_at (f := fun _ i => !i.eqok) tysne_XbN h
  exact TIok_of (all_at (f := ckTI Try.prog) tysck_XbN h) (fun he => by simp [he] at h1) (fun he => by simp [he] at h1)
def sM_rmay (key : Nat) : Sm := ⟨80, key, [.agg kRg], [.one .bool], false⟩
def sV_rmay (a : Rg) : List Dt := [.z (b2i (bmay a))]
def sF_rmay : List Dt → List Dt
  | [.z x0, .z x1, .z x2, .z x3] => sV_rmay ⟨x0, x1, x2, x3⟩
  | _ => []
def sT_rmay : Tr :=
(.br (.lt (.var 1) (.var 0))
(.leaf (.consb (.tt false) .nil))
(.leaf (.consb (.not (.lt (.var 3) (.var 2))) .nil)))
def sP_rmay : Spec := ⟨fun k => match k with | _ => fun _ => [], fun k => match k with | _ => fun _ => True⟩
set_option maxRecDepth 100000 in
theorem sR_rmay : treeIs tys_XbN [] [] [] [] 200 Try.f80 [.agg kRg] [.one .bool] false [.int .u64, .int .u64, .int .i64, .int .i64] sT_rmay := ⟨by kernel_rfl, by kernel_rfl, by kernel_rfl⟩
set_option maxRecDepth 100000 in
set_option maxHeartbeats 8000000 in
theorem sX_rmay (a : Rg) (ha : Rg.ok a) (ρ : Env) (g : varsD ρ 0 [.int .u64, .int .u64, .int .i64, .int .i64] = [.z a.ul, .z a.uh, .z a.sl, .z a.sh]) : sT_rmay.asks sP_rmay (fun ρ e => e.D ρ = sF_rmay [.z a.ul, .z a.uh, .z a.sl, .z a.sh]) ρ fun _ _ => False := by
  simp only [varsD, varD, List.cons.injEq, Dt.z.injEq, Dt.l.injEq, b2i_eq_iff, Nat.reduceAdd, and_true] at g
  simp only [sT_rmay, sP_rmay, sF_rmay, sV_rmay, Tr.asks, upd_same, okDs, okD, eqs, E.I, E.B, E.L, E.R, E.D, E.vs, dI, dB, dL, varD, varsD, List.getElem?_cons_zero, List.getElem?_cons_succ, List.cons_append, List.nil_append, Nat.zero_add, Nat.add_zero, Nat.reduceAdd, and_true, true_and, b2i_one, -eq_self, Rg.eta, g]
  refine ⟨fun c0 => ?_, fun c0 => ?_⟩
  · (unfold bmay; simp_all [not_lt_le]; try (intros; omega))
  · (unfold bmay; simp_all [not_lt_le]; try (intros; omega))
theorem sK_rmay {sp : Spec} {key : Nat} (hF : sp.F key = sF_rmay) (hP : sp.pre key = fun _ => True := by rfl) : SmOk Try.prog sp (sM_rmay key) :=
  fun_ok (s := sM_rmay key) hF hP (by kernel_rfl) tysok_XbN (sm0) Try.func80 fn0 sR_rmay (.inl rfl) (fun x0 gx0 x1 gx1 x2 gx2 x3 gx3 hp ρ g => sX_rmay ⟨x0, x1, x2, x3⟩ ⟨gx0, gx1, gx2, gx3⟩ ρ g)
def sM_rall (key : Nat) : Sm := ⟨79, key, [], [.agg kRg], false⟩
def sF_rall : List Dt → List Dt
  | [] => [.z ball.ul, .z ball.uh, .z ball.sl, .z ball.sh]
  | _ => []
def sT_rall : Tr :=
(.leaf (.cons (.lit 0) (.cons (.lit 18446744073709551615) (.cons (.lit (-9223372036854775808)) (.cons (.lit 9223372036854775807) .nil)))))
def sP_rall : Spec := ⟨fun k => match k with | _ => fun _ => [], fun k => match k with | _ => fun _ => True⟩
set_option maxRecDepth 100000 in
theorem sR_rall : treeIs tys_XbN [] [] [] [] 200 Try.f79 [] [.agg kRg] false [] sT_rall := ⟨by kernel_rfl, by kernel_rfl, by kernel_rfl⟩
set_option maxRecDepth 100000 in
set_option maxHeartbeats 8000000 in
theorem sX_rall  (ρ : Env) (g : varsD ρ 0 [] = []) : sT_rall.asks sP_rall (fun ρ e => e.D ρ = sF_rall []) ρ fun _ _ => False := by
  simp only [sT_rall, sP_rall, sF_rall, Tr.asks, upd_same, okDs, okD, eqs, E.I, E.B, E.L, E.R, E.D, E.vs, dI, dB, dL, varD, varsD, List.getElem?_cons_zero, List.getElem?_cons_succ, List.cons_append, List.nil_append, Nat.zero_add, Nat.add_zero, Nat.reduceAdd, and_true, true_and, b2i_one, -eq_self]
  · rfl
theorem sK_rall {sp : Spec} {key : Nat} (hF : sp.F key = sF_rall) (hP : sp.pre key = fun _ => True := by rfl) : SmOk Try.prog sp (sM_rall key) :=
  fun_ok (s := sM_rall key) hF hP (by kernel_rfl) tysok_XbN (sm0) Try.func79 fn0 sR_rall (.inl rfl) (fun  hp ρ g => sX_rall ρ g)
def sM_rone (key : Nat) : Sm := ⟨77, key, [.one (.int .u64)], [.agg kRg], false⟩
def sV_rone (v : Int) : List Dt := [.z ((bone v).ul), .z ((bone v).uh), .z ((bone v).sl), .z ((bone v).sh)]
def sF_rone : List Dt → List Dt
  | [.z x0] => sV_rone x0
  | _ => []
def sT_rone : Tr :=
(.leaf (.cons (.var 0) (.cons (.var 0) (.cons (.conv .i64 (.var 0)) (.cons (.conv .i64 (.var 0)) .nil)))))
def sP_rone : Spec := ⟨fun k => match k with | _ => fun _ => [], fun k => match k with | _ => fun _ => True⟩
set_option maxRecDepth 100000 in
theorem sR_rone : treeIs tys_XbN [] [] [] [] 200 Try.f77 [.one (.int .u64)] [.agg kRg] false [.int .u64] sT_rone := ⟨by kernel_rfl, by kernel_rfl, by kernel_rfl⟩
set_option maxRecDepth 100000 in
set_option maxHeartbeats 8000000 in
theorem sX_rone (v : Int) (hv : inK .u64 v = true) (ρ : Env) (g : varsD ρ 0 [.int .u64] = [.z v]) : sT_rone.asks sP_rone (fun ρ e => e.D ρ = sF_rone [.z v]) ρ fun _ _ => False := by
  simp only [varsD, varD, List.cons.injEq, Dt.z.injEq, Dt.l.injEq, b2i_eq_iff, Nat.reduceAdd, and_true] at g
  simp only [sT_rone, sP_rone, sF_rone, sV_rone, Tr.asks, upd_same, okDs, okD, eqs, E.I, E.B, E.L, E.R, E.D, E.vs, dI, dB, dL, varD, varsD, List.getElem?_cons_zero, List.getElem?_cons_succ, List.cons_append, List.nil_append, Nat.zero_add, Nat.add_zero, Nat.reduceAdd, and_true, true_and, b2i_one, -eq_self, g]
  · simp [bone, s64_wrap]
theorem sK_rone {sp : Spec} {key : Nat} (hF : sp.F key = sF_rone) (hP : sp.pre key = fun _ => True := by rfl) : SmOk Try.prog sp (sM_rone key) :=
  fun_ok (s := sM_rone key) hF hP (by kernel_rfl) tysok_XbN (sm0) Try.func77 fn0 sR_rone (.inl rfl) (fun x0 gx0 hp ρ g => sX_rone x0 gx0 ρ g)
def sM_rhas (key : Nat) : Sm := ⟨84, key, [.agg kRg, .one (.int .u64)], [.one .bool], false⟩
def sV_rhas (a : Rg) (v : Int) : List Dt := [.z (b2i (bhas a v))]
def sF_rhas : List Dt → List Dt
  | [.z x0, .z x1, .z x2, .z x3, .z x4] => sV_rhas ⟨x0, x1, x2, x3⟩ x4
  | _ => []
def sT_rhas : Tr :=
(.call 0 ([.bool]) (.vs 0 4 .nil) 5
(.br (.bvar 5)
(.br (.lt (.var 4) (.var 0))
(.leaf (.consb (.tt false) .nil))
(.br (.lt (.var 1) (.var 4))
(.leaf (.consb (.tt false) .nil))
(.br (.lt (.conv .i64 (.var 4)) (.var 2))
(.leaf (.consb (.tt false) .nil))
(.leaf (.consb (.not (.lt (.var 3) (.conv .i64 (.var 4)))) .nil)))))
(.leaf (.consb (.tt false) .nil))))
def sP_rhas : Spec := ⟨fun k => match k with | 0 => sF_rmay | _ => fun _ => [], fun k => match k with | _ => fun _ => True⟩
set_option maxRecDepth 100000 in
theorem sR_rhas : treeIs tys_XbN [sM_rmay 0] [] [] [] 200 Try.f84 [.agg kRg, .one (.int .u64)] [.one .bool] false [.int .u64, .int .u64, .int .i64, .int .i64, .int .u64] sT_rhas := ⟨by kernel_rfl, by kernel_rfl, by kernel_rfl⟩
set_option maxRecDepth 100000 in
set_option maxHeartbeats 8000000 in
theorem sX_rhas (a : Rg) (ha : Rg.ok a) (v : Int) (hv : inK .u64 v = true) (ρ : Env) (g : varsD ρ 0 [.int .u64, .int .u64, .int .i64, .int .i64, .int .u64] = [.z a.ul, .z a.uh, .z a.sl, .z a.sh, .z v]) : sT_rhas.asks sP_rhas (fun ρ e => e.D ρ = sF_rhas [.z a.ul, .z a.uh, .z a.sl, .z a.sh, .z v]) ρ fun _ _ => False := by
  simp only [varsD, varD, List.cons.injEq, Dt.z.injEq, Dt.l.injEq, b2i_eq_iff, Nat.reduceAdd, and_true] at g
  simp only [sT_rhas, sP_rhas, sF_rmay, sV_rmay, sF_rhas, sV_rhas, Tr.asks, upd_same, okDs, okD, eqs, E.I, E.B, E.L, E.R, E.D, E.vs, dI, dB, dL, varD, varsD, List.getElem?_cons_zero, List.getElem?_cons_succ, List.cons_append, List.nil_append, Nat.zero_add, Nat.add_zero, Nat.reduceAdd, and_true, true_and, b2i_one, -eq_self, Pi.eta, Pu.eta, Rg.eta, g]
  intro e; (try simp only [e, Pi.eta, Pu.eta, Rg.eta, -eq_self]); clear e
  refine ⟨fun c0 => ?_, fun c0 => ?_⟩
  refine ⟨fun c1 => ?_, fun c1 => ?_⟩
  · (unfold bhas; simp_all [s64_wrap, not_lt_le]; try (intros; omega))
  refine ⟨fun c2 => ?_, fun c2 => ?_⟩
  · (unfold bhas; simp_all [s64_wrap, not_lt_le]; try (intros; omega))
  refine ⟨fun c3 => ?_, fun c3 => ?_⟩
  · (unfold bhas; simp_all [s64_wrap, not_lt_le]; try (intros; omega))
  · (unfold bhas; simp_all [s64_wrap, not_lt_le]; try (intros; omega))
  · (unfold bhas; simp_all [s64_wrap, not_lt_le]; try (intros; omega))
theorem sK_rhas {sp : Spec} {key : Nat} (hF : sp.F key = sF_rhas) (hP : sp.pre key = fun _ => True := by rfl) : SmOk Try.prog sp (sM_rhas key) :=
  fun_ok (s := sM_rhas key) hF hP (by kernel_rfl) tysok_XbN (smc (sK_rmay rfl) sm0) Try.func84 fn0 sR_rhas (.inl rfl) (fun x0 gx0 x1 gx1 x2 gx2 x3 gx3 x4 gx4 hp ρ g => sX_rhas ⟨x0, x1, x2, x3⟩ ⟨gx0, gx1, gx2, gx3⟩ x4 gx4 ρ g)
def sM_rsgn (key : Nat) : Sm := ⟨161, key, [.agg kRg], [.agg kRg], false⟩
def sV_rsgn (a : Rg) : List Dt := [.z ((bsgn a).ul), .z ((bsgn a).uh), .z ((bsgn a).sl), .z ((bsgn a).sh)]
def sF_rsgn : List Dt → List Dt
  | [.z x0, .z x1, .z x2, .z x3] => sV_rsgn ⟨x0, x1, x2, x3⟩
  | _ => []
def sT_rsgn : Tr :=
(.br (.eq (.bin .shr .u64 (.var 0) (.lit 63)) (.bin .shr .u64 (.var 1) (.lit 63)))
(.leaf (.vs 0 2 (.cons (.mx (.var 2) (.conv .i64 (.var 0))) (.cons (.mn (.var 3) (.conv .i64 (.var 1))) .nil))))
(.leaf (.vs 0 4 .nil)))
def sP_rsgn : Spec := ⟨fun k => match k with | _ => fun _ => [], fun k => match k with | _ => fun _ => True⟩
set_option maxRecDepth 100000 in
theorem sR_rsgn : treeIs tys_XbN [] [] [] [] 200 Try.f161 [.agg kRg] [.agg kRg] false [.int .u64, .int .u64, .int .i64, .int .i64] sT_rsgn := ⟨by kernel_rfl, by kernel_rfl, by kernel_rfl⟩
set_option maxRecDepth 100000 in
set_option maxHeartbeats 8000000 in
theorem sX_rsgn (a : Rg) (ha : Rg.ok a) (ρ : Env) (g : varsD ρ 0 [.int .u64, .int .u64, .int .i64, .int .i64] = [.z a.ul, .z a.uh, .z a.sl, .z a.sh]) : sT_rsgn.asks sP_rsgn (fun ρ e => e.D ρ = sF_rsgn [.z a.ul, .z a.uh, .z a.sl, .z a.sh]) ρ fun _ _ => False := by
  simp only [varsD, varD, List.cons.injEq, Dt.z.injEq, Dt.l.injEq, b2i_eq_iff, Nat.reduceAdd, and_true] at g
  simp only [sT_rsgn, sP_rsgn, sF_rsgn, sV_rsgn, Tr.asks, upd_same, okDs, okD, eqs, E.I, E.B, E.L, E.R, E.D, E.vs, dI, dB, dL, varD, varsD, List.getElem?_cons_zero, List.getElem?_cons_succ, List.cons_append, List.nil_append, Nat.zero_add, Nat.add_zero, Nat.reduceAdd, and_true, true_and, b2i_one, -eq_self, Rg.eta, g]
  have wfg := Rg.wf_of ha
  refine ⟨fun c0 => ?_, fun c0 => ?_⟩
  · (rw [sgn_t wfg c0])
  · (rw [sgn_f wfg c0])
theorem sK_rsgn {sp : Spec} {key : Nat} (hF : sp.F key = sF_rsgn) (hP : sp.pre key = fun _ => True := by rfl) : SmOk Try.prog sp (sM_rsgn key) :=
  fun_ok (s := sM_rsgn key) hF hP (by kernel_rfl) tysok_XbN (sm0) Try.func161 fn0 sR_rsgn (.inl rfl) (fun x0 gx0 x1 gx1 x2 gx2 x3 gx3 hp ρ g => sX_rsgn ⟨x0, x1, x2, x3⟩ ⟨gx0, gx1, gx2, gx3⟩ ρ g)
def sM_runs (key : Nat) : Sm := ⟨162, key, [.agg kRg], [.agg kRg], false⟩
def sV_runs (a : Rg) : List Dt := [.z ((buns a).ul), .z ((buns a).uh), .z ((buns a).sl), .z ((buns a).sh)]
def sF_runs : List Dt → List Dt
  | [.z x0, .z x1, .z x2, .z x3] => sV_runs ⟨x0, x1, x2, x3⟩
  | _ => []
def sT_runs : Tr :=
(.br (.beq (.lt (.var 2) (.lit 0)) (.lt (.var 3) (.lit 0)))
(.leaf (.cons (.mx (.var 0) (.conv .u64 (.var 2))) (.cons (.mn (.var 1) (.conv .u64 (.var 3))) (.vs 2 2 .nil))))
(.leaf (.vs 0 4 .nil)))
def sP_runs : Spec := ⟨fun k => match k with | _ => fun _ => [], fun k => match k with | _ => fun _ => True⟩
set_option maxRecDepth 100000 in
theorem sR_runs : treeIs tys_XbN [] [] [] [] 200 Try.f162 [.agg kRg] [.agg kRg] false [.int .u64, .int .u64, .int .i64, .int .i64] sT_runs := ⟨by kernel_rfl, by kernel_rfl, by kernel_rfl⟩
set_option maxRecDepth 100000 in
set_option maxHeartbeats 8000000 in
theorem sX_runs (a : Rg) (ha : Rg.ok a) (ρ : Env) (g : varsD ρ 0 [.int .u64, .int .u64, .int .i64, .int .i64] = [.z a.ul, .z a.uh, .z a.sl, .z a.sh]) : sT_runs.asks sP_runs (fun ρ e => e.D ρ = sF_runs [.z a.ul, .z a.uh, .z a.sl, .z a.sh]) ρ fun _ _ => False := by
  simp only [varsD, varD, List.cons.injEq, Dt.z.injEq, Dt.l.injEq, b2i_eq_iff, Nat.reduceAdd, and_true] at g
  simp only [sT_runs, sP_runs, sF_runs, sV_runs, Tr.asks, upd_same, okDs, okD, eqs, E.I, E.B, E.L, E.R, E.D, E.vs, dI, dB, dL, varD, varsD, List.getElem?_cons_zero, List.getElem?_cons_succ, List.cons_append, List.nil_append, Nat.zero_add, Nat.add_zero, Nat.reduceAdd, and_true, true_and, b2i_one, -eq_self, Rg.eta, g]
  refine ⟨fun c0 => ?_, fun c0 => ?_⟩
  · (rw [uns_t c0])
  · (rw [uns_f c0])
theorem sK_runs {sp : Spec} {key : Nat} (hF : sp.F key = sF_runs) (hP : sp.pre key = fun _ => True := by rfl) : SmOk Try.prog sp (sM_runs key) :=
  fun_ok (s := sM_runs key) hF hP (by kernel_rfl) tysok_XbN (sm0) Try.func162 fn0 sR_runs (.inl rfl) (fun x0 gx0 x1 gx1 x2 gx2 x3 gx3 hp ρ g => sX_runs ⟨x0, x1, x2, x3⟩ ⟨gx0, gx1, gx2, gx3⟩ ρ g)
def sM_rnar (key : Nat) : Sm := ⟨160, key, [.agg kRg], [.agg kRg, .one .bool], true⟩
def sV_rnar (a : Rg) : List Dt := [.z ((bnar a).ul), .z ((bnar a).uh), .z ((bnar a).sl), .z ((bnar a).sh), .z (b2i (bnok a))]
def sF_rnar : List Dt → List Dt
  | [.z x0, .z x1, .z x2, .z x3] => sV_rnar ⟨x0, x1, x2, x3⟩
  | _ => []
def sT_rnar : Tr :=
(.call 0 ([.bool]) (.vs 0 4 .nil) 4
(.br (.bvar 4)
(.call 2 (kRg) (.vs 0 4 .nil) 5
(.call 0 ([.bool]) (.vs 5 4 .nil) 9
(.br (.bvar 9)
(.call 3 (kRg) (.vs 5 4 .nil) 10
(.call 0 ([.bool]) (.vs 10 4 .nil) 14
(.br (.bvar 14)
(.call 2 (kRg) (.vs 10 4 .nil) 15
(.call 0 ([.bool]) (.vs 15 4 .nil) 19
(.br (.bvar 19)
(.leaf (.vs 15 4 (.consb (.tt true) .nil)))
(.call 1 (kRg) .nil 20
(.leaf (.vs 20 4 (.consb (.tt false) .nil)))))))
(.call 1 (kRg) .nil 15
(.leaf (.vs 15 4 (.consb (.tt false) .nil)))))))
(.call 1 (kRg) .nil 10
(.leaf (.vs 10 4 (.consb (.tt false) .nil)))))))
(.call 1 (kRg) .nil 5
(.leaf (.vs 5 4 (.consb (.tt false) .nil))))))
def sP_rnar : Spec := ⟨fun k => match k with | 0 => sF_rmay | 1 => sF_rall | 2 => sF_rsgn | 3 => sF_runs | _ => fun _ => [], fun k => match k with | _ => fun _ => True⟩
set_option maxRecDepth 100000 in
theorem sR_rnar : treeIs tys_XbN [sM_rmay 0, sM_rall 1, sM_rsgn 2, sM_runs 3] [] [] [] 200 Try.f160 [.agg kRg] [.agg kRg, .one .bool] true [.int .u64, .int .u64, .int .i64, .int .i64] sT_rnar := ⟨by kernel_rfl, by kernel_rfl, by kernel_rfl⟩
set_option maxRecDepth 100000 in
set_option maxHeartbeats 8000000 in
theorem sX_rnar (a : Rg) (ha : Rg.ok a) (ρ : Env) (g : varsD ρ 0 [.int .u64, .int .u64, .int .i64, .int .i64] = [.z a.ul, .z a.uh, .z a.sl, .z a.sh]) : sT_rnar.asks sP_rnar (fun ρ e => e.D ρ = sF_rnar [.z a.ul, .z a.uh, .z a.sl, .z a.sh]) ρ fun _ _ => False := by
  simp only [varsD, varD, List.cons.injEq, Dt.z.injEq, Dt.l.injEq, b2i_eq_iff, Nat.reduceAdd, and_true] at g
  simp only [sT_rnar, sP_rnar, kRg, sF_rmay, sF_rall, sF_rsgn, sF_runs, sV_rmay, sV_rsgn, sV_runs, sF_rnar, sV_rnar, Tr.asks, upd_same, okDs, okD, eqs, E.I, E.B, E.L, E.R, E.D, E.vs, dI, dB, dL, varD, varsD, List.getElem?_cons_zero, List.getElem?_cons_succ, List.cons_append, List.nil_append, Nat.zero_add, Nat.add_zero, Nat.reduceAdd, and_true, true_and, b2i_one, -eq_self, Pi.eta, Pu.eta, Rg.eta, g]
  intro e; (try simp only [e, Pi.eta, Pu.eta, Rg.eta, -eq_self]); clear e
  refine ⟨fun c0 => ?_, fun c0 => ?_⟩
  intro e; (try simp only [e, Pi.eta, Pu.eta, Rg.eta, -eq_self]); clear e
  intro e; (try simp only [e, Pi.eta, Pu.eta, Rg.eta, -eq_self]); clear e
  refine ⟨fun c1 => ?_, fun c1 => ?_⟩
  intro e; (try simp only [e, Pi.eta, Pu.eta, Rg.eta, -eq_self]); clear e
  intro e; (try simp only [e, Pi.eta, Pu.eta, Rg.eta, -eq_self]); clear e
  refine ⟨fun c2 => ?_, fun c2 => ?_⟩
  intro e; (try simp only [e, Pi.eta, Pu.eta, Rg.eta, -eq_self]); clear e
  intro e; (try simp only [e, Pi.eta, Pu.eta, Rg.eta, -eq_self]); clear e
  refine ⟨fun c3 => ?_, fun c3 => ?_⟩
  · (unfold bnar bnok; simp_all)
  intro e; (try simp only [e, Pi.eta, Pu.eta, Rg.eta, -eq_self]); clear e
  · (unfold bnar bnok; simp_all)
  intro e; (try simp only [e, Pi.eta, Pu.eta, Rg.eta, -eq_self]); clear e
  · (unfold bnar bnok; simp_all)
  intro e; (try simp only [e, Pi.eta, Pu.eta, Rg.eta, -eq_self]); clear e
  · (unfold bnar bnok; simp_all)
  intro e; (try simp only [e, Pi.eta, Pu.eta, Rg.eta, -eq_self]); clear e
  · (unfold bnar bnok; simp_all)
theorem sK_rnar {sp : Spec} {key : Nat} (hF : sp.F key = sF_rnar) (hP : sp.pre key = fun _ => True := by rfl) : SmOk Try.prog sp (sM_rnar key) :=
  fun_ok (s := sM_rnar key) hF hP (by kernel_rfl) tysok_XbN (smc (sK_rmay rfl) (smc (sK_rall rfl) (smc (sK_rsgn rfl) (smc (sK_runs rfl) sm0)))) Try.func160 fn0 sR_rnar (.inl rfl) (fun x0 gx0 x1 gx1 x2 gx2 x3 gx3 hp ρ g => sX_rnar ⟨x0, x1, x2, x3⟩ ⟨gx0, gx1, gx2, gx3⟩ ρ g)
def sM_rjoin (key : Nat) : Sm := ⟨134, key, [.agg kRg, .agg kRg], [.agg kRg], false⟩
def sV_rjoin (a : Rg) (b : Rg) : List Dt := [.z ((bjoin a b).ul), .z ((bjoin a b).uh), .z ((bjoin a b).sl), .z ((bjoin a b).sh)]
def sF_rjoin : List Dt → List Dt
  | [.z x0, .z x1, .z x2, .z x3, .z x4, .z x5, .z x6, .z x7] => sV_rjoin ⟨x0, x1, x2, x3⟩ ⟨x4, x5, x6, x7⟩
  | _ => []
def sT_rjoin : Tr :=
(.call 0 ([.bool]) (.vs 0 4 .nil) 8
(.br (.bvar 8)
(.call 0 ([.bool]) (.vs 4 4 .nil) 9
(.br (.bvar 9)
(.leaf (.cons (.mn (.var 0) (.var 4)) (.cons (.mx (.var 1) (.var 5)) (.cons (.mn (.var 2) (.var 6)) (.cons (.mx (.var 3) (.var 7)) .nil)))))
(.call 1 (kRg) .nil 10
(.leaf (.vs 10 4 .nil)))))
(.call 1 (kRg) .nil 9
(.leaf (.vs 9 4 .nil)))))
def sP_rjoin : Spec := ⟨fun k => match k with | 0 => sF_rmay | 1 => sF_rall | _ => fun _ => [], fun k => match k with | _ => fun _ => True⟩
set_option maxRecDepth 100000 in
theorem sR_rjoin : treeIs tys_XbN [sM_rmay 0, sM_rall 1] [] [] [] 200 Try.f134 [.agg kRg, .agg kRg] [.agg kRg] false [.int .u64, .int .u64, .int .i64, .int .i64, .int .u64, .int .u64, .int .i64, .int .i64] sT_rjoin := ⟨by kernel_rfl, by kernel_rfl, by kernel_rfl⟩
set_option maxRecDepth 100000 in
set_option maxHeartbeats 8000000 in
theorem sX_rjoin (a : Rg) (ha : Rg.ok a) (b : Rg) (hb : Rg.ok b) (ρ : Env) (g : varsD ρ 0 [.int .u64, .int .u64, .int .i64, .int .i64, .int .u64, .int .u64, .int .i64, .int .i64] = [.z a.ul, .z a.uh, .z a.sl, .z a.sh, .z b.ul, .z b.uh, .z b.sl, .z b.sh]) : sT_rjoin.asks sP_rjoin (fun ρ e => e.D ρ = sF_rjoin [.z a.ul, .z a.uh, .z a.sl, .z a.sh, .z b.ul, .z b.uh, .z b.sl, .z b.sh]) ρ fun _ _ => False := by
  simp only [varsD, varD, List.cons.injEq, Dt.z.injEq, Dt.l.injEq, b2i_eq_iff, Nat.reduceAdd, and_true] at g
  simp only [sT_rjoin, sP_rjoin, kRg, sF_rmay, sF_rall, sV_rmay, sF_rjoin, sV_rjoin, Tr.asks, upd_same, okDs, okD, eqs, E.I, E.B, E.L, E.R, E.D, E.vs, dI, dB, dL, varD, varsD, List.getElem?_cons_zero, List.getElem?_cons_succ, List.cons_append, List.nil_append, Nat.zero_add, Nat.add_zero, Nat.reduceAdd, and_true, true_and, b2i_one, -eq_self, Pi.eta, Pu.eta, Rg.eta, g]
  intro e; (try simp only [e, Pi.eta, Pu.eta, Rg.eta, -eq_self]); clear e
  refine ⟨fun c0 => ?_, fun c0 => ?_⟩
  intro e; (try simp only [e, Pi.eta, Pu.eta, Rg.eta, -eq_self]); clear e
  refine ⟨fun c1 => ?_, fun c1 => ?_⟩
  · (unfold bjoin; simp_all [bjoin0])
  intro e; (try simp only [e, Pi.eta, Pu.eta, Rg.eta, -eq_self]); clear e
  · (unfold bjoin; simp_all [bjoin0])
  intro e; (try simp only [e, Pi.eta, Pu.eta, Rg.eta, -eq_self]); clear e
  · (unfold bjoin; simp_all [bjoin0])
theorem sK_rjoin {sp : Spec} {key : Nat} (hF : sp.F key = sF_rjoin) (hP : sp.pre key = fun _ => True := by rfl) : SmOk Try.prog sp (sM_rjoin key) :=
  fun_ok (s := sM_rjoin key) hF hP (by kernel_rfl) tysok_XbN (smc (sK_rmay rfl) (smc (sK_rall rfl) sm0)) Try.func134 fn0 sR_rjoin (.inl rfl) (fun x0 gx0 x1 gx1 x2 gx2 x3 gx3 x4 gx4 x5 gx5 x6 gx6 x7 gx7 hp ρ g => sX_rjoin ⟨x0, x1, x2, x3⟩ ⟨gx0, gx1, gx2, gx3⟩ ⟨x4, x5, x6, x7⟩ ⟨gx4, gx5, gx6, gx7⟩ ρ g)
def sM_rmeet (key : Nat) : Sm := ⟨136, key, [.agg kRg, .agg kRg], [.agg kRg, .one .bool], true⟩
def sV_rmeet (a : Rg) (b : Rg) : List Dt := [.z ((bmeet a b).ul), .z ((bmeet a b).uh), .z ((bmeet a b).sl), .z ((bmeet a b).sh), .z (b2i (bmeets a b))]
def sF_rmeet : List Dt → List Dt
  | [.z x0, .z x1, .z x2, .z x3, .z x4, .z x5, .z x6, .z x7] => sV_rmeet ⟨x0, x1, x2, x3⟩ ⟨x4, x5, x6, x7⟩
  | _ => []
def sT_rmeet : Tr :=
(.call 0 ([.bool]) (.vs 0 4 .nil) 8
(.br (.bvar 8)
(.call 0 ([.bool]) (.vs 4 4 .nil) 9
(.br (.bvar 9)
(.call 2 (kRg ++ [.bool]) (.cons (.mx (.var 0) (.var 4)) (.cons (.mn (.var 1) (.var 5)) (.cons (.mx (.var 2) (.var 6)) (.cons (.mn (.var 3) (.var 7)) .nil)))) 10
(.leaf (.vs 10 4 (.consb (.bvar 14) .nil))))
(.call 1 (kRg) .nil 10
(.leaf (.vs 10 4 (.consb (.tt false) .nil))))))
(.call 1 (kRg) .nil 9
(.leaf (.vs 9 4 (.consb (.tt false) .nil))))))
def sP_rmeet : Spec := ⟨fun k => match k with | 0 => sF_rmay | 1 => sF_rall | 2 => sF_rnar | _ => fun _ => [], fun k => match k with | _ => fun _ => True⟩
set_option maxRecDepth 100000 in
theorem sR_rmeet : treeIs tys_XbN [sM_rmay 0, sM_rall 1, sM_rnar 2] [] [] [] 200 Try.f136 [.agg kRg, .agg kRg] [.agg kRg, .one .bool] true [.int .u64, .int .u64, .int .i64, .int .i64, .int .u64, .int .u64, .int .i64, .int .i64] sT_rmeet := ⟨by kernel_rfl, by kernel_rfl, by kernel_rfl⟩
set_option maxRecDepth 100000 in
set_option maxHeartbeats 8000000 in
theorem sX_rmeet (a : Rg) (ha : Rg.ok a) (b : Rg) (hb : Rg.ok b) (ρ : Env) (g : varsD ρ 0 [.int .u64, .int .u64, .int .i64, .int .i64, .int .u64, .int .u64, .int .i64, .int .i64] = [.z a.ul, .z a.uh, .z a.sl, .z a.sh, .z b.ul, .z b.uh, .z b.sl, .z b.sh]) : sT_rmeet.asks sP_rmeet (fun ρ e => e.D ρ = sF_rmeet [.z a.ul, .z a.uh, .z a.sl, .z a.sh, .z b.ul, .z b.uh, .z b.sl, .z b.sh]) ρ fun _ _ => False := by
  simp only [varsD, varD, List.cons.injEq, Dt.z.injEq, Dt.l.injEq, b2i_eq_iff, Nat.reduceAdd, and_true] at g
  simp only [sT_rmeet, sP_rmeet, kRg, sF_rmay, sF_rall, sF_rnar, sV_rmay, sV_rnar, sF_rmeet, sV_rmeet, Tr.asks, upd_same, okDs, okD, eqs, E.I, E.B, E.L, E.R, E.D, E.vs, dI, dB, dL, varD, varsD, List.getElem?_cons_zero, List.getElem?_cons_succ, List.cons_append, List.nil_append, Nat.zero_add, Nat.add_zero, Nat.reduceAdd, and_true, true_and, b2i_one, -eq_self, Pi.eta, Pu.eta, Rg.eta, g]
  intro e; (try simp only [e, Pi.eta, Pu.eta, Rg.eta, -eq_self]); clear e
  refine ⟨fun c0 => ?_, fun c0 => ?_⟩
  intro e; (try simp only [e, Pi.eta, Pu.eta, Rg.eta, -eq_self]); clear e
  refine ⟨fun c1 => ?_, fun c1 => ?_⟩
  intro e; (try simp only [e, Pi.eta, Pu.eta, Rg.eta, -eq_self]); clear e
  · (unfold bmeet bmeets; simp_all [bmeet0, bnar_if])
  intro e; (try simp only [e, Pi.eta, Pu.eta, Rg.eta, -eq_self]); clear e
  · (unfold bmeet bmeets; simp_all [bmeet0, bnar_if])
  intro e; (try simp only [e, Pi.eta, Pu.eta, Rg.eta, -eq_self]); clear e
  · (unfold bmeet bmeets; simp_all [bmeet0, bnar_if])
theorem sK_rmeet {sp : Spec} {key : Nat} (hF : sp.F key = sF_rmeet) (hP : sp.pre key = fun _ => True := by rfl) : SmOk Try.prog sp (sM_rmeet key) :=
  fun_ok (s := sM_rmeet key) hF hP (by kernel_rfl) tysok_XbN (smc (sK_rmay rfl) (smc (sK_rall rfl) (smc (sK_rnar rfl) sm0))) Try.func136 fn0 sR_rmeet (.inl rfl) (fun x0 gx0 x1 gx1 x2 gx2 x3 gx3 x4 gx4 x5 gx5 x6 gx6 x7 gx7 hp ρ g => sX_rmeet ⟨x0, x1, x2, x3⟩ ⟨gx0, gx1, gx2, gx3⟩ ⟨x4, x5, x6, x7⟩ ⟨gx4, gx5, gx6, gx7⟩ ρ g)
def sM_rin (key : Nat) : Sm := ⟨105, key, [.agg kRg, .agg kRg], [.one .bool], false⟩
def sV_rin (a : Rg) (b : Rg) : List Dt := [.z (b2i (bin a b))]
def sF_rin : List Dt → List Dt
  | [.z x0, .z x1, .z x2, .z x3, .z x4, .z x5, .z x6, .z x7] => sV_rin ⟨x0, x1, x2, x3⟩ ⟨x4, x5, x6, x7⟩
  | _ => []
def sT_rin : Tr :=
(.call 0 ([.bool]) (.vs 0 4 .nil) 8
(.br (.bvar 8)
(.call 0 ([.bool]) (.vs 4 4 .nil) 9
(.br (.bvar 9)
(.br (.lt (.var 0) (.var 4))
(.leaf (.consb (.tt false) .nil))
(.br (.lt (.var 5) (.var 1))
(.leaf (.consb (.tt false) .nil))
(.br (.lt (.var 2) (.var 6))
(.leaf (.consb (.tt false) .nil))
(.leaf (.consb (.not (.lt (.var 7) (.var 3))) .nil)))))
(.leaf (.consb (.tt false) .nil))))
(.leaf (.consb (.tt false) .nil))))
def sP_rin : Spec := ⟨fun k => match k with | 0 => sF_rmay | _ => fun _ => [], fun k => match k with | _ => fun _ => True⟩
set_option maxRecDepth 100000 in
theorem sR_rin : treeIs tys_XbN [sM_rmay 0] [] [] [] 200 Try.f105 [.agg kRg, .agg kRg] [.one .bool] false [.int .u64, .int .u64, .int .i64, .int .i64, .int .u64, .int .u64, .int .i64, .int .i64] sT_rin := ⟨by kernel_rfl, by kernel_rfl, by kernel_rfl⟩
set_option maxRecDepth 100000 in
set_option maxHeartbeats 8000000 in
theorem sX_rin (a : Rg) (ha : Rg.ok a) (b : Rg) (hb : Rg.ok b) (ρ : Env) (g : varsD ρ 0 [.int .u64, .int .u64, .int .i64, .int .i64, .int .u64, .int .u64, .int .i64, .int .i64] = [.z a.ul, .z a.uh, .z a.sl, .z a.sh, .z b.ul, .z b.uh, .z b.sl, .z b.sh]) : sT_rin.asks sP_rin (fun ρ e => e.D ρ = sF_rin [.z a.ul, .z a.uh, .z a.sl, .z a.sh, .z b.ul, .z b.uh, .z b.sl, .z b.sh]) ρ fun _ _ => False := by
  simp only [varsD, varD, List.cons.injEq, Dt.z.injEq, Dt.l.injEq, b2i_eq_iff, Nat.reduceAdd, and_true] at g
  simp only [sT_rin, sP_rin, sF_rmay, sV_rmay, sF_rin, sV_rin, Tr.asks, upd_same, okDs, okD, eqs, E.I, E.B, E.L, E.R, E.D, E.vs, dI, dB, dL, varD, varsD, List.getElem?_cons_zero, List.getElem?_cons_succ, List.cons_append, List.nil_append, Nat.zero_add, Nat.add_zero, Nat.reduceAdd, and_true, true_and, b2i_one, -eq_self, Pi.eta, Pu.eta, Rg.eta, g]
  intro e; (try simp only [e, Pi.eta, Pu.eta, Rg.eta, -eq_self]); clear e
  refine ⟨fun c0 => ?_, fun c0 => ?_⟩
  intro e; (try simp only [e, Pi.eta, Pu.eta, Rg.eta, -eq_self]); clear e
  refine ⟨fun c1 => ?_, fun c1 => ?_⟩
  refine ⟨fun c2 => ?_, fun c2 => ?_⟩
  · (refine zb ?_; rw [Bool.eq_iff_iff, bin_iff]; simp_all [not_lt_le]; try omega)
  refine ⟨fun c3 => ?_, fun c3 => ?_⟩
  · (refine zb ?_; rw [Bool.eq_iff_iff, bin_iff]; simp_all [not_lt_le]; try omega)
  refine ⟨fun c4 => ?_, fun c4 => ?_⟩
  · (refine zb ?_; rw [Bool.eq_iff_iff, bin_iff]; simp_all [not_lt_le]; try omega)
  · (refine zb ?_; rw [Bool.eq_iff_iff, bin_iff]; simp_all [not_lt_le]; try omega)
  · (refine zb ?_; rw [Bool.eq_iff_iff, bin_iff]; simp_all [not_lt_le]; try omega)
  · (refine zb ?_; rw [Bool.eq_iff_iff, bin_iff]; simp_all [not_lt_le]; try omega)
theorem sK_rin {sp : Spec} {key : Nat} (hF : sp.F key = sF_rin) (hP : sp.pre key = fun _ => True := by rfl) : SmOk Try.prog sp (sM_rin key) :=
  fun_ok (s := sM_rin key) hF hP (by kernel_rfl) tysok_XbN (smc (sK_rmay rfl) sm0) Try.func105 fn0 sR_rin (.inl rfl) (fun x0 gx0 x1 gx1 x2 gx2 x3 gx3 x4 gx4 x5 gx5 x6 gx6 x7 gx7 hp ρ g => sX_rin ⟨x0, x1, x2, x3⟩ ⟨gx0, gx1, gx2, gx3⟩ ⟨x4, x5, x6, x7⟩ ⟨gx4, gx5, gx6, gx7⟩ ρ g)
end Go.Proofs.Ytcfnglbcgkappaa


/- Contracts of Do and Given of the document's own package of layer 7, by the symbolic run. -/
set_option linter.unusedVariables false
set_option linter.unusedSimpArgs false
namespace Go.Proofs.Ytcfnglbcgkappaa
open Go.RowKit Go.ChangeShapes Go.WideShapes

end Go.Proofs.Ytcfnglbcgkappaa

