/- Contracts of the document's own package of layer 8, by the symbolic run. -/
import Derived.Test.YtcfnglbcgkappaaKnZ
import Derived.Test.YtcfnglbcgkappaaVk
import Derived.Test.YtcfnglbcgkappaaProg
import Derived.Laws.Externs
set_option linter.unusedVariables false
set_option linter.unusedSimpArgs false
namespace Go.Proofs.Ytcfnglbcgkappaa
open Go.RowKit Go.ChangeShapes Go.WideShapes

def tys_VqA : List (Nat × TI) := [(23, ⟨false, 1, [.int .u64 (.lit 0)], [], none, some .u64, false, false, none, 8, false⟩),
 (27, ⟨true, 2, [.int .u64 (.lit 0), .int .u64 (.lit 0)], [(0, 23), (1, 23)], none, none, false, false, none, 16, false⟩)]
set_option maxRecDepth 100000 in
theorem tysck_VqA : (tys_VqA.all fun p => ckTI Try.prog p.1 p.2) = true := by kernel_rfl
theorem tysne_VqA : (tys_VqA.all fun p => !p.2.eqok) = true := by kernel_rfl
theorem tysok_VqA : ∀ t i, (t, i) ∈ tys_VqA → TIok Try.prog t i := by
  intro t i h
  have h1 := all_at (f := fun _ i => !i.eqok) tysne_VqA h
  exact TIok_of (all_at (f := ckTI Try.prog) tysck_VqA h) (fun he => by simp [he] at h1) (fun he => by simp [he] at h1)
def sM_qmay (key : Nat) : Sm := ⟨81, key, [.agg kKn], [.one .bool], false⟩
def sV_qmay (a : Kn) : List Dt := [.z (b2i (kmay a))]
def sF_qmay : List Dt → List Dt
  | [.z x0, .z x1] => sV_qmay ⟨x0, x1⟩
  | _ => []
def sT_qmay : Tr :=
(.leaf (.consb (.eq (.bin .and .u64 (.var 0) (.var 1)) (.lit 0)) .nil))
def sP_qmay : Spec := ⟨fun k => match k with | _ => fun _ => [], fun k => match k with | _ => fun _ => True⟩
set_option maxRecDepth 100000 in
theorem sR_qmay : treeIs tys_VqA [] [] [] [] 200 Try.f81 [.agg kKn] [.one .bool] false [.int .u64, .int .u64] sT_qmay := ⟨by kernel_rfl, by kernel_rfl, by kernel_rfl⟩
set_option maxRecDepth 100000 in
set_option maxHeartbeats 8000000 in
theorem sX_qmay (a : Kn) (ha : Kn.ok a) (ρ : Env) (g : varsD ρ 0 [.int .u64, .int .u64] = [.z a.v, .z a.m]) : sT_qmay.asks sP_qmay (fun ρ e => e.D ρ = sF_qmay [.z a.v, .z a.m]) ρ fun _ _ => False := by
  simp only [varsD, varD, List.cons.injEq, Dt.z.injEq, Dt.l.injEq, b2i_eq_iff, Nat.reduceAdd, and_true] at g
  simp only [sT_qmay, sP_qmay, sF_qmay, sV_qmay, Tr.asks, upd_same, okDs, okD, eqs, E.I, E.B, E.L, E.R, E.D, E.vs, dI, dB, dL, varD, varsD, List.getElem?_cons_zero, List.getElem?_cons_succ, List.cons_append, List.nil_append, Nat.zero_add, Nat.add_zero, Nat.reduceAdd, and_true, true_and, b2i_one, -eq_self, Kn.eta, Sc.eta_r, Sc.eta_k, Sc.eta_2, g]
  · rfl
theorem sK_qmay {sp : Spec} {key : Nat} (hF : sp.F key = sF_qmay) (hP : sp.pre key = fun _ => True := by rfl) : SmOk Try.prog sp (sM_qmay key) :=
  fun_ok (s := sM_qmay key) hF hP (by kernel_rfl) tysok_VqA (sm0) Try.func81 fn0 sR_qmay (.inl rfl) (fun x0 gx0 x1 gx1 hp ρ g => sX_qmay ⟨x0, x1⟩ ⟨gx0, gx1⟩ ρ g)
def sM_qall (key : Nat) : Sm := ⟨73, key, [], [.agg kKn], false⟩
def sF_qall : List Dt → List Dt
  | [] => [.z kall.v, .z kall.m]
  | _ => []
def sT_qall : Tr :=
(.leaf (.cons (.lit 0) (.cons (.lit 18446744073709551615) .nil)))
def sP_qall : Spec := ⟨fun k => match k with | _ => fun _ => [], fun k => match k with | _ => fun _ => True⟩
set_option maxRecDepth 100000 in
theorem sR_qall : treeIs tys_VqA [] [] [] [] 200 Try.f73 [] [.agg kKn] false [] sT_qall := ⟨by kernel_rfl, by kernel_rfl, by kernel_rfl⟩
set_option maxRecDepth 100000 in
set_option maxHeartbeats 8000000 in
theorem sX_qall  (ρ : Env) (g : varsD ρ 0 [] = []) : sT_qall.asks sP_qall (fun ρ e => e.D ρ = sF_qall []) ρ fun _ _ => False := by
  simp only [sT_qall, sP_qall, sF_qall, Tr.asks, upd_same, okDs, okD, eqs, E.I, E.B, E.L, E.R, E.D, E.vs, dI, dB, dL, varD, varsD, List.getElem?_cons_zero, List.getElem?_cons_succ, List.cons_append, List.nil_append, Nat.zero_add, Nat.add_zero, Nat.reduceAdd, and_true, true_and, b2i_one, -eq_self, Sc.eta_r, Sc.eta_k, Sc.eta_2]
  · rfl
theorem sK_qall {sp : Spec} {key : Nat} (hF : sp.F key = sF_qall) (hP : sp.pre key = fun _ => True := by rfl) : SmOk Try.prog sp (sM_qall key) :=
  fun_ok (s := sM_qall key) hF hP (by kernel_rfl) tysok_VqA (sm0) Try.func73 fn0 sR_qall (.inl rfl) (fun  hp ρ g => sX_qall ρ g)
def sM_qone (key : Nat) : Sm := ⟨78, key, [.one (.int .u64)], [.agg kKn], false⟩
def sV_qone (v : Int) : List Dt := [.z ((kone v).v), .z ((kone v).m)]
def sF_qone : List Dt → List Dt
  | [.z x0] => sV_qone x0
  | _ => []
def sT_qone : Tr :=
(.leaf (.cons (.var 0) (.cons (.lit 0) .nil)))
def sP_qone : Spec := ⟨fun k => match k with | _ => fun _ => [], fun k => match k with | _ => fun _ => True⟩
set_option maxRecDepth 100000 in
theorem sR_qone : treeIs tys_VqA [] [] [] [] 200 Try.f78 [.one (.int .u64)] [.agg kKn] false [.int .u64] sT_qone := ⟨by kernel_rfl, by kernel_rfl, by kernel_rfl⟩
set_option maxRecDepth 100000 in
set_option maxHeartbeats 8000000 in
theorem sX_qone (v : Int) (hv : inK .u64 v = true) (ρ : Env) (g : varsD ρ 0 [.int .u64] = [.z v]) : sT_qone.asks sP_qone (fun ρ e => e.D ρ = sF_qone [.z v]) ρ fun _ _ => False := by
  simp only [varsD, varD, List.cons.injEq, Dt.z.injEq, Dt.l.injEq, b2i_eq_iff, Nat.reduceAdd, and_true] at g
  simp only [sT_qone, sP_qone, sF_qone, sV_qone, Tr.asks, upd_same, okDs, okD, eqs, E.I, E.B, E.L, E.R, E.D, E.vs, dI, dB, dL, varD, varsD, List.getElem?_cons_zero, List.getElem?_cons_succ, List.cons_append, List.nil_append, Nat.zero_add, Nat.add_zero, Nat.reduceAdd, and_true, true_and, b2i_one, -eq_self, Sc.eta_r, Sc.eta_k, Sc.eta_2, g]
  · rfl
theorem sK_qone {sp : Spec} {key : Nat} (hF : sp.F key = sF_qone) (hP : sp.pre key = fun _ => True := by rfl) : SmOk Try.prog sp (sM_qone key) :=
  fun_ok (s := sM_qone key) hF hP (by kernel_rfl) tysok_VqA (sm0) Try.func78 fn0 sR_qone (.inl rfl) (fun x0 gx0 hp ρ g => sX_qone x0 gx0 ρ g)
def sM_qhas (key : Nat) : Sm := ⟨85, key, [.agg kKn, .one (.int .u64)], [.one .bool], false⟩
def sV_qhas (a : Kn) (v : Int) : List Dt := [.z (b2i (khas a v))]
def sF_qhas : List Dt → List Dt
  | [.z x0, .z x1, .z x2] => sV_qhas ⟨x0, x1⟩ x2
  | _ => []
def sT_qhas : Tr :=
(.call 0 ([.bool]) (.vs 0 2 .nil) 3
(.br (.bvar 3)
(.leaf (.consb (.eq (.bin .andNot .u64 (.var 2) (.var 1)) (.var 0)) .nil))
(.leaf (.consb (.tt false) .nil))))
def sP_qhas : Spec := ⟨fun k => match k with | 0 => sF_qmay | _ => fun _ => [], fun k => match k with | _ => fun _ => True⟩
set_option maxRecDepth 100000 in
theorem sR_qhas : treeIs tys_VqA [sM_qmay 0] [] [] [] 200 Try.f85 [.agg kKn, .one (.int .u64)] [.one .bool] false [.int .u64, .int .u64, .int .u64] sT_qhas := ⟨by kernel_rfl, by kernel_rfl, by kernel_rfl⟩
set_option maxRecDepth 100000 in
set_option maxHeartbeats 8000000 in
theorem sX_qhas (a : Kn) (ha : Kn.ok a) (v : Int) (hv : inK .u64 v = true) (ρ : Env) (g : varsD ρ 0 [.int .u64, .int .u64, .int .u64] = [.z a.v, .z a.m, .z v]) : sT_qhas.asks sP_qhas (fun ρ e => e.D ρ = sF_qhas [.z a.v, .z a.m, .z v]) ρ fun _ _ => False := by
  simp only [varsD, varD, List.cons.injEq, Dt.z.injEq, Dt.l.injEq, b2i_eq_iff, Nat.reduceAdd, and_true] at g
  simp only [sT_qhas, sP_qhas, sF_qmay, sV_qmay, sF_qhas, sV_qhas, Tr.asks, upd_same, okDs, okD, eqs, E.I, E.B, E.L, E.R, E.D, E.vs, dI, dB, dL, varD, varsD, List.getElem?_cons_zero, List.getElem?_cons_succ, List.cons_append, List.nil_append, Nat.zero_add, Nat.add_zero, Nat.reduceAdd, and_true, true_and, b2i_one, -eq_self, Kn.eta, Pi.eta, Pu.eta, Rg.eta, Sc.eta, Sc.eta_r, Sc.eta_k, Sc.eta_2, g]
  intro e; (try simp only [e, Kn.eta, Pi.eta, Pu.eta, Rg.eta, Sc.eta, Sc.eta_r, Sc.eta_k, Sc.eta_2, -eq_self]); clear e
  refine ⟨fun c0 => ?_, fun c0 => ?_⟩
  · (unfold khas; simp_all [opI])
  · (unfold khas; simp_all [opI])
theorem sK_qhas {sp : Spec} {key : Nat} (hF : sp.F key = sF_qhas) (hP : sp.pre key = fun _ => True := by rfl) : SmOk Try.prog sp (sM_qhas key) :=
  fun_ok (s := sM_qhas key) hF hP (by kernel_rfl) tysok_VqA (smc (sK_qmay rfl) sm0) Try.func85 fn0 sR_qhas (.inl rfl) (fun x0 gx0 x1 gx1 x2 gx2 hp ρ g => sX_qhas ⟨x0, x1⟩ ⟨gx0, gx1⟩ x2 gx2 ρ g)
def sM_qjoin (key : Nat) : Sm := ⟨133, key, [.agg kKn, .agg kKn], [.agg kKn], false⟩
def sV_qjoin (a : Kn) (b : Kn) : List Dt := [.z ((kjoin a b).v), .z ((kjoin a b).m)]
def sF_qjoin : List Dt → List Dt
  | [.z x0, .z x1, .z x2, .z x3] => sV_qjoin ⟨x0, x1⟩ ⟨x2, x3⟩
  | _ => []
def sT_qjoin : Tr :=
(.call 0 ([.bool]) (.vs 0 2 .nil) 4
(.br (.bvar 4)
(.call 0 ([.bool]) (.vs 2 2 .nil) 5
(.br (.bvar 5)
(.leaf (.cons (.bin .andNot .u64 (.var 0) (.bin .or .u64 (.bin .or .u64 (.var 1) (.var 3)) (.bin .xor .u64 (.var 0) (.var 2)))) (.cons (.bin .or .u64 (.bin .or .u64 (.var 1) (.var 3)) (.bin .xor .u64 (.var 0) (.var 2))) .nil)))
(.call 1 (kKn) .nil 6
(.leaf (.vs 6 2 .nil)))))
(.call 1 (kKn) .nil 5
(.leaf (.vs 5 2 .nil)))))
def sP_qjoin : Spec := ⟨fun k => match k with | 0 => sF_qmay | 1 => sF_qall | _ => fun _ => [], fun k => match k with | _ => fun _ => True⟩
set_option maxRecDepth 100000 in
theorem sR_qjoin : treeIs tys_VqA [sM_qmay 0, sM_qall 1] [] [] [] 200 Try.f133 [.agg kKn, .agg kKn] [.agg kKn] false [.int .u64, .int .u64, .int .u64, .int .u64] sT_qjoin := ⟨by kernel_rfl, by kernel_rfl, by kernel_rfl⟩
set_option maxRecDepth 100000 in
set_option maxHeartbeats 8000000 in
theorem sX_qjoin (a : Kn) (ha : Kn.ok a) (b : Kn) (hb : Kn.ok b) (ρ : Env) (g : varsD ρ 0 [.int .u64, .int .u64, .int .u64, .int .u64] = [.z a.v, .z a.m, .z b.v, .z b.m]) : sT_qjoin.asks sP_qjoin (fun ρ e => e.D ρ = sF_qjoin [.z a.v, .z a.m, .z b.v, .z b.m]) ρ fun _ _ => False := by
  simp only [varsD, varD, List.cons.injEq, Dt.z.injEq, Dt.l.injEq, b2i_eq_iff, Nat.reduceAdd, and_true] at g
  simp only [sT_qjoin, sP_qjoin, kKn, sF_qmay, sF_qall, sV_qmay, sF_qjoin, sV_qjoin, Tr.asks, upd_same, okDs, okD, eqs, E.I, E.B, E.L, E.R, E.D, E.vs, dI, dB, dL, varD, varsD, List.getElem?_cons_zero, List.getElem?_cons_succ, List.cons_append, List.nil_append, Nat.zero_add, Nat.add_zero, Nat.reduceAdd, and_true, true_and, b2i_one, -eq_self, Kn.eta, Pi.eta, Pu.eta, Rg.eta, Sc.eta, Sc.eta_r, Sc.eta_k, Sc.eta_2, g]
  intro e; (try simp only [e, Kn.eta, Pi.eta, Pu.eta, Rg.eta, Sc.eta, Sc.eta_r, Sc.eta_k, Sc.eta_2, -eq_self]); clear e
  refine ⟨fun c0 => ?_, fun c0 => ?_⟩
  intro e; (try simp only [e, Kn.eta, Pi.eta, Pu.eta, Rg.eta, Sc.eta, Sc.eta_r, Sc.eta_k, Sc.eta_2, -eq_self]); clear e
  refine ⟨fun c1 => ?_, fun c1 => ?_⟩
  · (unfold kjoin; simp_all [opI, kmask])
  intro e; (try simp only [e, Kn.eta, Pi.eta, Pu.eta, Rg.eta, Sc.eta, Sc.eta_r, Sc.eta_k, Sc.eta_2, -eq_self]); clear e
  · (unfold kjoin; simp_all [opI, kmask])
  intro e; (try simp only [e, Kn.eta, Pi.eta, Pu.eta, Rg.eta, Sc.eta, Sc.eta_r, Sc.eta_k, Sc.eta_2, -eq_self]); clear e
  · (unfold kjoin; simp_all [opI, kmask])
theorem sK_qjoin {sp : Spec} {key : Nat} (hF : sp.F key = sF_qjoin) (hP : sp.pre key = fun _ => True := by rfl) : SmOk Try.prog sp (sM_qjoin key) :=
  fun_ok (s := sM_qjoin key) hF hP (by kernel_rfl) tysok_VqA (smc (sK_qmay rfl) (smc (sK_qall rfl) sm0)) Try.func133 fn0 sR_qjoin (.inl rfl) (fun x0 gx0 x1 gx1 x2 gx2 x3 gx3 hp ρ g => sX_qjoin ⟨x0, x1⟩ ⟨gx0, gx1⟩ ⟨x2, x3⟩ ⟨gx2, gx3⟩ ρ g)
def sM_qmeet (key : Nat) : Sm := ⟨137, key, [.agg kKn, .agg kKn], [.agg kKn, .one .bool], true⟩
def sV_qmeet (a : Kn) (b : Kn) : List Dt := [.z ((kmeet a b).v), .z ((kmeet a b).m), .z (b2i (kmeets a b))]
def sF_qmeet : List Dt → List Dt
  | [.z x0, .z x1, .z x2, .z x3] => sV_qmeet ⟨x0, x1⟩ ⟨x2, x3⟩
  | _ => []
def sT_qmeet : Tr :=
(.call 0 ([.bool]) (.vs 0 2 .nil) 4
(.br (.bvar 4)
(.call 0 ([.bool]) (.vs 2 2 .nil) 5
(.br (.bvar 5)
(.br (.eq (.bin .andNot .u64 (.bin .xor .u64 (.var 0) (.var 2)) (.bin .or .u64 (.var 1) (.var 3))) (.lit 0))
(.leaf (.cons (.bin .or .u64 (.var 0) (.var 2)) (.cons (.bin .and .u64 (.var 1) (.var 3)) (.consb (.tt true) .nil))))
(.call 1 (kKn) .nil 6
(.leaf (.vs 6 2 (.consb (.tt false) .nil)))))
(.call 1 (kKn) .nil 6
(.leaf (.vs 6 2 (.consb (.tt false) .nil))))))
(.call 1 (kKn) .nil 5
(.leaf (.vs 5 2 (.consb (.tt false) .nil))))))
def sP_qmeet : Spec := ⟨fun k => match k with | 0 => sF_qmay | 1 => sF_qall | _ => fun _ => [], fun k => match k with | _ => fun _ => True⟩
set_option maxRecDepth 100000 in
theorem sR_qmeet : treeIs tys_VqA [sM_qmay 0, sM_qall 1] [] [] [] 200 Try.f137 [.agg kKn, .agg kKn] [.agg kKn, .one .bool] true [.int .u64, .int .u64, .int .u64, .int .u64] sT_qmeet := ⟨by kernel_rfl, by kernel_rfl, by kernel_rfl⟩
set_option maxRecDepth 100000 in
set_option maxHeartbeats 8000000 in
theorem sX_qmeet (a : Kn) (ha : Kn.ok a) (b : Kn) (hb : Kn.ok b) (ρ : Env) (g : varsD ρ 0 [.int .u64, .int .u64, .int .u64, .int .u64] = [.z a.v, .z a.m, .z b.v, .z b.m]) : sT_qmeet.asks sP_qmeet (fun ρ e => e.D ρ = sF_qmeet [.z a.v, .z a.m, .z b.v, .z b.m]) ρ fun _ _ => False := by
  simp only [varsD, varD, List.cons.injEq, Dt.z.injEq, Dt.l.injEq, b2i_eq_iff, Nat.reduceAdd, and_true] at g
  simp only [sT_qmeet, sP_qmeet, kKn, sF_qmay, sF_qall, sV_qmay, sF_qmeet, sV_qmeet, Tr.asks, upd_same, okDs, okD, eqs, E.I, E.B, E.L, E.R, E.D, E.vs, dI, dB, dL, varD, varsD, List.getElem?_cons_zero, List.getElem?_cons_succ, List.cons_append, List.nil_append, Nat.zero_add, Nat.add_zero, Nat.reduceAdd, and_true, true_and, b2i_one, -eq_self, Kn.eta, Pi.eta, Pu.eta, Rg.eta, Sc.eta, Sc.eta_r, Sc.eta_k, Sc.eta_2, g]
  intro e; (try simp only [e, Kn.eta, Pi.eta, Pu.eta, Rg.eta, Sc.eta, Sc.eta_r, Sc.eta_k, Sc.eta_2, -eq_self]); clear e
  refine ⟨fun c0 => ?_, fun c0 => ?_⟩
  intro e; (try simp only [e, Kn.eta, Pi.eta, Pu.eta, Rg.eta, Sc.eta, Sc.eta_r, Sc.eta_k, Sc.eta_2, -eq_self]); clear e
  refine ⟨fun c1 => ?_, fun c1 => ?_⟩
  refine ⟨fun c2 => ?_, fun c2 => ?_⟩
  · (rw [kmeet_rmeet]; unfold rmeet kmeets kodds; simp_all [opI])
  intro e; (try simp only [e, Kn.eta, Pi.eta, Pu.eta, Rg.eta, Sc.eta, Sc.eta_r, Sc.eta_k, Sc.eta_2, -eq_self]); clear e
  · (rw [kmeet_rmeet]; unfold rmeet kmeets kodds; simp_all [opI])
  intro e; (try simp only [e, Kn.eta, Pi.eta, Pu.eta, Rg.eta, Sc.eta, Sc.eta_r, Sc.eta_k, Sc.eta_2, -eq_self]); clear e
  · (rw [kmeet_rmeet]; unfold rmeet kmeets kodds; simp_all [opI])
  intro e; (try simp only [e, Kn.eta, Pi.eta, Pu.eta, Rg.eta, Sc.eta, Sc.eta_r, Sc.eta_k, Sc.eta_2, -eq_self]); clear e
  · (rw [kmeet_rmeet]; unfold rmeet kmeets kodds; simp_all [opI])
theorem sK_qmeet {sp : Spec} {key : Nat} (hF : sp.F key = sF_qmeet) (hP : sp.pre key = fun _ => True := by rfl) : SmOk Try.prog sp (sM_qmeet key) :=
  fun_ok (s := sM_qmeet key) hF hP (by kernel_rfl) tysok_VqA (smc (sK_qmay rfl) (smc (sK_qall rfl) sm0)) Try.func137 fn0 sR_qmeet (.inl rfl) (fun x0 gx0 x1 gx1 x2 gx2 x3 gx3 hp ρ g => sX_qmeet ⟨x0, x1⟩ ⟨gx0, gx1⟩ ⟨x2, x3⟩ ⟨gx2, gx3⟩ ρ g)
def sM_qin (key : Nat) : Sm := ⟨106, key, [.agg kKn, .agg kKn], [.one .bool], false⟩
def sV_qin (a : Kn) (b : Kn) : List Dt := [.z (b2i (kin a b))]
def sF_qin : List Dt → List Dt
  | [.z x0, .z x1, .z x2, .z x3] => sV_qin ⟨x0, x1⟩ ⟨x2, x3⟩
  | _ => []
def sT_qin : Tr :=
(.call 0 ([.bool]) (.vs 0 2 .nil) 4
(.br (.bvar 4)
(.call 0 ([.bool]) (.vs 2 2 .nil) 5
(.br (.bvar 5)
(.br (.eq (.bin .andNot .u64 (.var 1) (.var 3)) (.lit 0))
(.leaf (.consb (.eq (.bin .andNot .u64 (.bin .xor .u64 (.var 0) (.var 2)) (.var 3)) (.lit 0)) .nil))
(.leaf (.consb (.tt false) .nil)))
(.leaf (.consb (.tt false) .nil))))
(.leaf (.consb (.tt false) .nil))))
def sP_qin : Spec := ⟨fun k => match k with | 0 => sF_qmay | _ => fun _ => [], fun k => match k with | _ => fun _ => True⟩
set_option maxRecDepth 100000 in
theorem sR_qin : treeIs tys_VqA [sM_qmay 0] [] [] [] 200 Try.f106 [.agg kKn, .agg kKn] [.one .bool] false [.int .u64, .int .u64, .int .u64, .int .u64] sT_qin := ⟨by kernel_rfl, by kernel_rfl, by kernel_rfl⟩
set_option maxRecDepth 100000 in
set_option maxHeartbeats 8000000 in
theorem sX_qin (a : Kn) (ha : Kn.ok a) (b : Kn) (hb : Kn.ok b) (ρ : Env) (g : varsD ρ 0 [.int .u64, .int .u64, .int .u64, .int .u64] = [.z a.v, .z a.m, .z b.v, .z b.m]) : sT_qin.asks sP_qin (fun ρ e => e.D ρ = sF_qin [.z a.v, .z a.m, .z b.v, .z b.m]) ρ fun _ _ => False := by
  simp only [varsD, varD, List.cons.injEq, Dt.z.injEq, Dt.l.injEq, b2i_eq_iff, Nat.reduceAdd, and_true] at g
  simp only [sT_qin, sP_qin, sF_qmay, sV_qmay, sF_qin, sV_qin, Tr.asks, upd_same, okDs, okD, eqs, E.I, E.B, E.L, E.R, E.D, E.vs, dI, dB, dL, varD, varsD, List.getElem?_cons_zero, List.getElem?_cons_succ, List.cons_append, List.nil_append, Nat.zero_add, Nat.add_zero, Nat.reduceAdd, and_true, true_and, b2i_one, -eq_self, Kn.eta, Pi.eta, Pu.eta, Rg.eta, Sc.eta, Sc.eta_r, Sc.eta_k, Sc.eta_2, g]
  intro e; (try simp only [e, Kn.eta, Pi.eta, Pu.eta, Rg.eta, Sc.eta, Sc.eta_r, Sc.eta_k, Sc.eta_2, -eq_self]); clear e
  refine ⟨fun c0 => ?_, fun c0 => ?_⟩
  intro e; (try simp only [e, Kn.eta, Pi.eta, Pu.eta, Rg.eta, Sc.eta, Sc.eta_r, Sc.eta_k, Sc.eta_2, -eq_self]); clear e
  refine ⟨fun c1 => ?_, fun c1 => ?_⟩
  refine ⟨fun c2 => ?_, fun c2 => ?_⟩
  · (rw [kin_rin (Kn.wf_of hb)]; unfold rin; simp_all [opI])
  · (rw [kin_rin (Kn.wf_of hb)]; unfold rin; simp_all [opI])
  · (rw [kin_rin (Kn.wf_of hb)]; unfold rin; simp_all [opI])
  · (rw [kin_rin (Kn.wf_of hb)]; unfold rin; simp_all [opI])
theorem sK_qin {sp : Spec} {key : Nat} (hF : sp.F key = sF_qin) (hP : sp.pre key = fun _ => True := by rfl) : SmOk Try.prog sp (sM_qin key) :=
  fun_ok (s := sM_qin key) hF hP (by kernel_rfl) tysok_VqA (smc (sK_qmay rfl) sm0) Try.func106 fn0 sR_qin (.inl rfl) (fun x0 gx0 x1 gx1 x2 gx2 x3 gx3 hp ρ g => sX_qin ⟨x0, x1⟩ ⟨gx0, gx1⟩ ⟨x2, x3⟩ ⟨gx2, gx3⟩ ρ g)
def sM_qcut (key : Nat) : Sm := ⟨72, key, [.agg kKn, .one (.int .i8)], [.agg kKn], false⟩
def sV_qcut (a : Kn) (l : Int) : List Dt := [.z ((kcut a l).v), .z ((kcut a l).m)]
def sF_qcut : List Dt → List Dt
  | [.z x0, .z x1, .z x2] => sV_qcut ⟨x0, x1⟩ x2
  | _ => []
def sT_qcut : Tr :=
(.call 0 ([.bool]) (.vs 0 2 .nil) 3
(.br (.bvar 3)
(.call 2 ([.int .u64]) (.cons (.var 0) (.cons (.var 2) .nil)) 4
(.call 2 ([.int .u64]) (.vs 1 2 .nil) 5
(.leaf (.vs 4 2 .nil))))
(.call 1 (kKn) .nil 4
(.leaf (.vs 4 2 .nil)))))
def sP_qcut : Spec := ⟨fun k => match k with | 0 => sF_qmay | 1 => sF_qall | 2 => sF_rcut | _ => fun _ => [], fun k => match k with | _ => fun _ => True⟩
set_option maxRecDepth 100000 in
theorem sR_qcut : treeIs tys_VqA [sM_qmay 0, sM_qall 1, sM_rcut 2] [] [] [] 200 Try.f72 [.agg kKn, .one (.int .i8)] [.agg kKn] false [.int .u64, .int .u64, .int .i8] sT_qcut := ⟨by kernel_rfl, by kernel_rfl, by kernel_rfl⟩
set_option maxRecDepth 100000 in
set_option maxHeartbeats 8000000 in
theorem sX_qcut (a : Kn) (ha : Kn.ok a) (l : Int) (hl : inK .i8 l = true) (ρ : Env) (g : varsD ρ 0 [.int .u64, .int .u64, .int .i8] = [.z a.v, .z a.m, .z l]) : sT_qcut.asks sP_qcut (fun ρ e => e.D ρ = sF_qcut [.z a.v, .z a.m, .z l]) ρ fun _ _ => False := by
  simp only [varsD, varD, List.cons.injEq, Dt.z.injEq, Dt.l.injEq, b2i_eq_iff, Nat.reduceAdd, and_true] at g
  simp only [sT_qcut, sP_qcut, kKn, sF_qmay, sF_qall, sF_rcut, sV_qmay, sV_rcut, sF_qcut, sV_qcut, Tr.asks, upd_same, okDs, okD, eqs, E.I, E.B, E.L, E.R, E.D, E.vs, dI, dB, dL, varD, varsD, List.getElem?_cons_zero, List.getElem?_cons_succ, List.cons_append, List.nil_append, Nat.zero_add, Nat.add_zero, Nat.reduceAdd, and_true, true_and, b2i_one, -eq_self, Kn.eta, Pi.eta, Pu.eta, Rg.eta, Sc.eta, Sc.eta_r, Sc.eta_k, Sc.eta_2, g]
  intro e; (try simp only [e, Kn.eta, Pi.eta, Pu.eta, Rg.eta, Sc.eta, Sc.eta_r, Sc.eta_k, Sc.eta_2, -eq_self]); clear e
  refine ⟨fun c0 => ?_, fun c0 => ?_⟩
  intro e; (try simp only [e, Kn.eta, Pi.eta, Pu.eta, Rg.eta, Sc.eta, Sc.eta_r, Sc.eta_k, Sc.eta_2, -eq_self]); clear e
  intro e; (try simp only [e, Kn.eta, Pi.eta, Pu.eta, Rg.eta, Sc.eta, Sc.eta_r, Sc.eta_k, Sc.eta_2, -eq_self]); clear e
  · (unfold kcut; simp_all)
  intro e; (try simp only [e, Kn.eta, Pi.eta, Pu.eta, Rg.eta, Sc.eta, Sc.eta_r, Sc.eta_k, Sc.eta_2, -eq_self]); clear e
  · (unfold kcut; simp_all)
theorem sK_qcut {sp : Spec} {key : Nat} (hF : sp.F key = sF_qcut) (hP : sp.pre key = fun _ => True := by rfl) : SmOk Try.prog sp (sM_qcut key) :=
  fun_ok (s := sM_qcut key) hF hP (by kernel_rfl) tysok_VqA (smc (sK_qmay rfl) (smc (sK_qall rfl) (smc (sK_rcut rfl) sm0))) Try.func72 fn0 sR_qcut (.inl rfl) (fun x0 gx0 x1 gx1 x2 gx2 hp ρ g => sX_qcut ⟨x0, x1⟩ ⟨gx0, gx1⟩ x2 gx2 ρ g)
def sM_qcom (key : Nat) : Sm := ⟨138, key, [.one (.int .u64), .one (.int .u64)], [.agg kKn], false⟩
def sV_qcom (x : Int) (y : Int) : List Dt := [.z ((kcommon x y).v), .z ((kcommon x y).m)]
def sF_qcom : List Dt → List Dt
  | [.z x0, .z x1] => sV_qcom x0 x1
  | _ => []
def sT_qcom : Tr :=
(.br (.lt (.var 1) (.var 0))
(.call 0 (kKn) .nil 2
(.leaf (.vs 2 2 .nil)))
(.loop 0 2 [.int .u64] (.cons (.lit 0) .nil)
(.br (.eq (.bin .andNot .u64 (.bin .xor .u64 (.var 0) (.var 1)) (.var 2)) (.lit 0))
(.leaf (.cons (.bin .andNot .u64 (.var 0) (.var 2)) (.cons (.var 2) .nil)))
(.next 0 (.cons (.bin .or .u64 (.bin .shl .u64 (.var 2) (.lit 1)) (.lit 1)) .nil)))))
def sP_qcom : Spec := ⟨fun k => match k with | 0 => sF_qall | _ => fun _ => [], fun k => match k with | _ => fun _ => True⟩
set_option maxRecDepth 100000 in
theorem sR_qcom : treeIs tys_VqA [sM_qall 0] [] [(4, [.tmpI 5 .u64, .top 10, .top 11, .top 12, .top 13, .top 14, .top 15, .top 16, .top 17, .top 18])] [] 200 Try.f138 [.one (.int .u64), .one (.int .u64)] [.agg kKn] false [.int .u64, .int .u64] sT_qcom := ⟨by kernel_rfl, by kernel_rfl, by kernel_rfl⟩
set_option maxRecDepth 100000 in
set_option maxHeartbeats 8000000 in
theorem sX_qcom (x : Int) (hx : inK .u64 x = true) (y : Int) (hy : inK .u64 y = true) (ρ : Env) (g : varsD ρ 0 [.int .u64, .int .u64] = [.z x, .z y]) : sT_qcom.asks sP_qcom (fun ρ e => e.D ρ = sF_qcom [.z x, .z y]) ρ fun _ _ => False := by
  have keepg := g
  simp only [varsD, varD, List.cons.injEq, Dt.z.injEq, Dt.l.injEq, b2i_eq_iff, Nat.reduceAdd, and_true] at g
  simp only [sT_qcom, sP_qcom, kKn, sF_qall, sF_qcom, sV_qcom, Tr.asks, upd_same, okDs, okD, eqs, E.I, E.B, E.L, E.R, E.D, E.vs, dI, dB, dL, varD, varsD, List.getElem?_cons_zero, List.getElem?_cons_succ, List.cons_append, List.nil_append, Nat.zero_add, Nat.add_zero, Nat.reduceAdd, and_true, true_and, b2i_one, -eq_self, Kn.eta, Pi.eta, Pu.eta, Rg.eta, Sc.eta, Sc.eta_r, Sc.eta_k, Sc.eta_2, g]
  refine ⟨fun c0 => ?_, fun c0 => ?_⟩
  intro e; (try simp only [e, Kn.eta, Pi.eta, Pu.eta, Rg.eta, Sc.eta, Sc.eta_r, Sc.eta_k, Sc.eta_2, -eq_self]); clear e
  · exact agg_Kn (by unfold kcommon; rw [if_pos (of_decide_eq_true c0)])
  refine ⟨fun ds => ∃ n : Nat, ds = [.z (2 ^ n - 1)] ∧ n ≤ 64 ∧ kcn x y = cfrom x y (64 - n) n, fun ds => (18446744073709551616 - dI ds 0).toNat, ⟨0, rfl, by omega, rfl⟩, ?_⟩
  intro ρ' ag ok hi
  obtain ⟨n, hd, hn, hk⟩ := hi
  simp only [List.cons.injEq, Dt.z.injEq, and_true] at hd
  have hdf := diff_iff x y n hn (inK_u64 hx).1 (inK_u64 hx).2 (inK_u64 hy).1 (inK_u64 hy).2
  simp only [hd, ← (ag 0 (by decide)).1, ← (ag 1 (by decide)).1, g, dI, List.getElem?_cons_zero, -eq_self]
  clear ok ag
  refine ⟨fun c1 => ?_, fun c1 => ?_⟩
  · (refine agg_Kn (r := kmask x (2 ^ n - 1)) ?_; unfold kcommon; rw [if_neg (of_decide_eq_false c0), cfrom_at hn hk (hdf.1 (eqz c1))])
  · have he : ¬ x / 2 ^ n = y / 2 ^ n := fun h => nez c1 (hdf.2 h)
    have bx := inK_u64 hx
    have by_ := inK_u64 hy
    have hlt : n < 64 := Nat.lt_of_le_of_ne hn (fun h => he (by subst h; omega))
    have hs : opI .or .u64 (opI .shl .u64 (2 ^ n - 1) 1) 1 = 2 ^ (n + 1) - 1 := mask_step n hlt
    rw [hs]
    refine ⟨⟨n + 1, rfl, by omega, cfrom_next hlt hk he⟩, ?_⟩
    have h6 := pow_bd0 hn
    have h7 := pow_bd0 (n := n + 1) (by omega)
    have h8 : (2 : Int) ^ (n + 1) = 2 ^ n * 2 := Int.pow_succ 2 n
    rw [h8] at h7 ⊢
    generalize (2 : Int) ^ n = p at *
    omega
theorem sK_qcom {sp : Spec} {key : Nat} (hF : sp.F key = sF_qcom) (hP : sp.pre key = fun _ => True := by rfl) : SmOk Try.prog sp (sM_qcom key) :=
  fun_ok (s := sM_qcom key) hF hP (by kernel_rfl) tysok_VqA (smc (sK_qall rfl) sm0) Try.func138 fn0 sR_qcom (.inl rfl) (fun x0 gx0 x1 gx1 hp ρ g => sX_qcom x0 gx0 x1 gx1 ρ g)
end Go.Proofs.Ytcfnglbcgkappaa

