/- Contracts of the document's own packages of layers 8 and 9, by the symbolic run. -/
import Derived.Test.YtcfnglbcgkappaaVrL
import Derived.Test.YtcfnglbcgkappaaVqA
import Derived.Test.YtcfnglbcgkappaaProg
import Derived.Laws.Externs
set_option linter.unusedVariables false
set_option linter.unusedSimpArgs false
namespace Go.Proofs.Ytcfnglbcgkappaa
open Go.RowKit Go.ChangeShapes Go.WideShapes

def tys_VrA : List (Nat × TI) := [(2, ⟨false, 1, [.int .i64 (.lit 0)], [], none, some .i64, false, false, none, 8, false⟩),
 (3, ⟨false, 1, [.int .i64 (.lit 0)], [], none, some .i64, false, false, none, 8, false⟩),
 (22, ⟨false, 1, [.int .i8 (.lit 0)], [], none, some .i8, false, false, none, 1, false⟩),
 (23, ⟨false, 1, [.int .u64 (.lit 0)], [], none, some .u64, false, false, none, 8, false⟩),
 (25, ⟨true, 4, [.int .u64 (.lit 0), .int .u64 (.lit 0), .int .i64 (.lit 0), .int .i64 (.lit 0)], [(0, 23), (1, 23), (2, 2), (3, 2)], none, none, false, false, none, 32, false⟩),
 (27, ⟨true, 2, [.int .u64 (.lit 0), .int .u64 (.lit 0)], [(0, 23), (1, 23)], none, none, false, false, none, 16, false⟩),
 (29, ⟨true, 6, [.int .u64 (.lit 0), .int .u64 (.lit 0), .int .i64 (.lit 0), .int .i64 (.lit 0), .int .u64 (.lit 0), .int .u64 (.lit 0)], [(0, 25), (4, 27)], none, none, false, false, none, 48, false⟩),
 (56, ⟨false, 1, [.int .u64 (.lit 0)], [], none, some .u64, false, false, none, 8, false⟩)]
set_option maxRecDepth 100000 in
theorem tysck_VrA : (tys_VrA.all fun p => ckTI Try.prog p.1 p.2) = true := by kernel_rfl
theorem tysne_VrA : (tys_VrA.all fun p => !p.2.eqok) = true := by kernel_rfl
theorem tysok_VrA : ∀ t i, (t, i) ∈ tys_VrA → TIok Try.prog t i := by
  intro t i h
  have h1 := all_at (f := fun _ i => !i.eqok) tysne_VrA h
  exact TIok_of (all_at (f := ckTI Try.prog) tysck_VrA h) (fun he => by simp [he] at h1) (fun he => by simp [he] at h1)
def sM_wmay (key : Nat) : Sm := ⟨53, key, [.agg kSc], [.one .bool], false⟩
def sV_wmay (a : Sc) : List Dt := [.z (b2i (vmay a))]
def sF_wmay : List Dt → List Dt
  | [.z x0, .z x1, .z x2, .z x3, .z x4, .z x5] => sV_wmay ⟨x0, x1, x2, x3, x4, x5⟩
  | _ => []
def sT_wmay : Tr :=
(.call 0 ([.bool]) (.vs 0 4 .nil) 6
(.br (.bvar 6)
(.call 1 ([.bool]) (.vs 4 2 .nil) 7
(.leaf (.consb (.bvar 7) .nil)))
(.leaf (.consb (.tt false) .nil))))
def sP_wmay : Spec := ⟨fun k => match k with | 0 => sF_rmay | 1 => sF_qmay | _ => fun _ => [], fun k => match k with | _ => fun _ => True⟩
set_option maxRecDepth 100000 in
theorem sR_wmay : treeIs tys_VrA [sM_rmay 0, sM_qmay 1] [] [] [] 200 Try.f53 [.agg kSc] [.one .bool] false [.int .u64, .int .u64, .int .i64, .int .i64, .int .u64, .int .u64] sT_wmay := ⟨by kernel_rfl, by kernel_rfl, by kernel_rfl⟩
set_option maxRecDepth 100000 in
set_option maxHeartbeats 8000000 in
theorem sX_wmay (a : Sc) (ha : Sc.ok a) (ρ : Env) (g : varsD ρ 0 [.int .u64, .int .u64, .int .i64, .int .i64, .int .u64, .int .u64] = [.z a.ul, .z a.uh, .z a.sl, .z a.sh, .z a.v, .z a.m]) : sT_wmay.asks sP_wmay (fun ρ e => e.D ρ = sF_wmay [.z a.ul, .z a.uh, .z a.sl, .z a.sh, .z a.v, .z a.m]) ρ fun _ _ => False := by
  simp only [varsD, varD, List.cons.injEq, Dt.z.injEq, Dt.l.injEq, b2i_eq_iff, Nat.reduceAdd, and_true] at g
  simp only [sT_wmay, sP_wmay, sF_rmay, sF_qmay, sV_rmay, sV_qmay, sF_wmay, sV_wmay, Tr.asks, upd_same, okDs, okD, eqs, E.I, E.B, E.L, E.R, E.D, E.vs, dI, dB, dL, varD, varsD, List.getElem?_cons_zero, List.getElem?_cons_succ, List.cons_append, List.nil_append, Nat.zero_add, Nat.add_zero, Nat.reduceAdd, and_true, true_and, b2i_one, -eq_self, Kn.eta, Pi.eta, Pu.eta, Rg.eta, Sc.eta, Sc.eta_r, Sc.eta_k, Sc.eta_2, g]
  intro e; (try simp only [e, Kn.eta, Pi.eta, Pu.eta, Rg.eta, Sc.eta, Sc.eta_r, Sc.eta_k, Sc.eta_2, -eq_self]); clear e
  refine ⟨fun c0 => ?_, fun c0 => ?_⟩
  intro e; (try simp only [e, Kn.eta, Pi.eta, Pu.eta, Rg.eta, Sc.eta, Sc.eta_r, Sc.eta_k, Sc.eta_2, -eq_self]); clear e
  · (unfold vmay; simp_all)
  · (unfold vmay; simp_all)
theorem sK_wmay {sp : Spec} {key : Nat} (hF : sp.F key = sF_wmay) (hP : sp.pre key = fun _ => True := by rfl) : SmOk Try.prog sp (sM_wmay key) :=
  fun_ok (s := sM_wmay key) hF hP (by kernel_rfl) tysok_VrA (smc (sK_rmay rfl) (smc (sK_qmay rfl) sm0)) Try.func53 fn0 sR_wmay (.inl rfl) (fun x0 gx0 x1 gx1 x2 gx2 x3 gx3 x4 gx4 x5 gx5 hp ρ g => sX_wmay ⟨x0, x1, x2, x3, x4, x5⟩ ⟨gx0, gx1, gx2, gx3, gx4, gx5⟩ ρ g)
def sM_wall (key : Nat) : Sm := ⟨52, key, [], [.agg kSc], false⟩
def sF_wall : List Dt → List Dt
  | [] => [.z vall.ul, .z vall.uh, .z vall.sl, .z vall.sh, .z vall.v, .z vall.m]
  | _ => []
def sT_wall : Tr :=
(.call 0 (kRg) .nil 0
(.call 1 (kKn) .nil 4
(.leaf (.vs 0 6 .nil))))
def sP_wall : Spec := ⟨fun k => match k with | 0 => sF_rall | 1 => sF_qall | _ => fun _ => [], fun k => match k with | _ => fun _ => True⟩
set_option maxRecDepth 100000 in
theorem sR_wall : treeIs tys_VrA [sM_rall 0, sM_qall 1] [] [] [] 200 Try.f52 [] [.agg kSc] false [] sT_wall := ⟨by kernel_rfl, by kernel_rfl, by kernel_rfl⟩
set_option maxRecDepth 100000 in
set_option maxHeartbeats 8000000 in
theorem sX_wall  (ρ : Env) (g : varsD ρ 0 [] = []) : sT_wall.asks sP_wall (fun ρ e => e.D ρ = sF_wall []) ρ fun _ _ => False := by
  simp only [sT_wall, sP_wall, kKn, kRg, sF_rall, sF_qall, sF_wall, Tr.asks, upd_same, okDs, okD, eqs, E.I, E.B, E.L, E.R, E.D, E.vs, dI, dB, dL, varD, varsD, List.getElem?_cons_zero, List.getElem?_cons_succ, List.cons_append, List.nil_append, Nat.zero_add, Nat.add_zero, Nat.reduceAdd, and_true, true_and, b2i_one, -eq_self, Kn.eta, Pi.eta, Pu.eta, Rg.eta, Sc.eta, Sc.eta_r, Sc.eta_k, Sc.eta_2]
  intro e; (try simp only [e, Kn.eta, Pi.eta, Pu.eta, Rg.eta, Sc.eta, Sc.eta_r, Sc.eta_k, Sc.eta_2, -eq_self]); clear e
  intro e; (try simp only [e, Kn.eta, Pi.eta, Pu.eta, Rg.eta, Sc.eta, Sc.eta_r, Sc.eta_k, Sc.eta_2, -eq_self]); clear e
  · rfl
theorem sK_wall {sp : Spec} {key : Nat} (hF : sp.F key = sF_wall) (hP : sp.pre key = fun _ => True := by rfl) : SmOk Try.prog sp (sM_wall key) :=
  fun_ok (s := sM_wall key) hF hP (by kernel_rfl) tysok_VrA (smc (sK_rall rfl) (smc (sK_qall rfl) sm0)) Try.func52 fn0 sR_wall (.inl rfl) (fun  hp ρ g => sX_wall ρ g)
def sM_wone (key : Nat) : Sm := ⟨51, key, [.one (.int .u64)], [.agg kSc], false⟩
def sV_wone (v : Int) : List Dt := [.z ((vone v).ul), .z ((vone v).uh), .z ((vone v).sl), .z ((vone v).sh), .z ((vone v).v), .z ((vone v).m)]
def sF_wone : List Dt → List Dt
  | [.z x0] => sV_wone x0
  | _ => []
def sT_wone : Tr :=
(.call 0 (kRg) (.cons (.var 0) .nil) 1
(.call 1 (kKn) (.cons (.var 0) .nil) 5
(.leaf (.vs 1 6 .nil))))
def sP_wone : Spec := ⟨fun k => match k with | 0 => sF_rone | 1 => sF_qone | _ => fun _ => [], fun k => match k with | _ => fun _ => True⟩
set_option maxRecDepth 100000 in
theorem sR_wone : treeIs tys_VrA [sM_rone 0, sM_qone 1] [] [] [] 200 Try.f51 [.one (.int .u64)] [.agg kSc] false [.int .u64] sT_wone := ⟨by kernel_rfl, by kernel_rfl, by kernel_rfl⟩
set_option maxRecDepth 100000 in
set_option maxHeartbeats 8000000 in
theorem sX_wone (v : Int) (hv : inK .u64 v = true) (ρ : Env) (g : varsD ρ 0 [.int .u64] = [.z v]) : sT_wone.asks sP_wone (fun ρ e => e.D ρ = sF_wone [.z v]) ρ fun _ _ => False := by
  simp only [varsD, varD, List.cons.injEq, Dt.z.injEq, Dt.l.injEq, b2i_eq_iff, Nat.reduceAdd, and_true] at g
  simp only [sT_wone, sP_wone, kKn, kRg, sF_rone, sF_qone, sV_rone, sV_qone, sF_wone, sV_wone, Tr.asks, upd_same, okDs, okD, eqs, E.I, E.B, E.L, E.R, E.D, E.vs, dI, dB, dL, varD, varsD, List.getElem?_cons_zero, List.getElem?_cons_succ, List.cons_append, List.nil_append, Nat.zero_add, Nat.add_zero, Nat.reduceAdd, and_true, true_and, b2i_one, -eq_self, Kn.eta, Pi.eta, Pu.eta, Rg.eta, Sc.eta, Sc.eta_r, Sc.eta_k, Sc.eta_2, g]
  intro e; (try simp only [e, Kn.eta, Pi.eta, Pu.eta, Rg.eta, Sc.eta, Sc.eta_r, Sc.eta_k, Sc.eta_2, -eq_self]); clear e
  intro e; (try simp only [e, Kn.eta, Pi.eta, Pu.eta, Rg.eta, Sc.eta, Sc.eta_r, Sc.eta_k, Sc.eta_2, -eq_self]); clear e
  · rfl
theorem sK_wone {sp : Spec} {key : Nat} (hF : sp.F key = sF_wone) (hP : sp.pre key = fun _ => True := by rfl) : SmOk Try.prog sp (sM_wone key) :=
  fun_ok (s := sM_wone key) hF hP (by kernel_rfl) tysok_VrA (smc (sK_rone rfl) (smc (sK_qone rfl) sm0)) Try.func51 fn0 sR_wone (.inl rfl) (fun x0 gx0 hp ρ g => sX_wone x0 gx0 ρ g)
def sM_whas (key : Nat) : Sm := ⟨55, key, [.agg kSc, .one (.int .u64)], [.one .bool], false⟩
def sV_whas (a : Sc) (v : Int) : List Dt := [.z (b2i (vhas a v))]
def sF_whas : List Dt → List Dt
  | [.z x0, .z x1, .z x2, .z x3, .z x4, .z x5, .z x6] => sV_whas ⟨x0, x1, x2, x3, x4, x5⟩ x6
  | _ => []
def sT_whas : Tr :=
(.call 0 ([.bool]) (.vs 0 6 .nil) 7
(.br (.bvar 7)
(.call 1 ([.bool]) (.vs 0 4 (.cons (.var 6) .nil)) 8
(.br (.bvar 8)
(.call 2 ([.bool]) (.vs 4 3 .nil) 9
(.leaf (.consb (.bvar 9) .nil)))
(.leaf (.consb (.tt false) .nil))))
(.leaf (.consb (.tt false) .nil))))
def sP_whas : Spec := ⟨fun k => match k with | 0 => sF_wmay | 1 => sF_rhas | 2 => sF_qhas | _ => fun _ => [], fun k => match k with | _ => fun _ => True⟩
set_option maxRecDepth 100000 in
theorem sR_whas : treeIs tys_VrA [sM_wmay 0, sM_rhas 1, sM_qhas 2] [] [] [] 200 Try.f55 [.agg kSc, .one (.int .u64)] [.one .bool] false [.int .u64, .int .u64, .int .i64, .int .i64, .int .u64, .int .u64, .int .u64] sT_whas := ⟨by kernel_rfl, by kernel_rfl, by kernel_rfl⟩
set_option maxRecDepth 100000 in
set_option maxHeartbeats 8000000 in
theorem sX_whas (a : Sc) (ha : Sc.ok a) (v : Int) (hv : inK .u64 v = true) (ρ : Env) (g : varsD ρ 0 [.int .u64, .int .u64, .int .i64, .int .i64, .int .u64, .int .u64, .int .u64] = [.z a.ul, .z a.uh, .z a.sl, .z a.sh, .z a.v, .z a.m, .z v]) : sT_whas.asks sP_whas (fun ρ e => e.D ρ = sF_whas [.z a.ul, .z a.uh, .z a.sl, .z a.sh, .z a.v, .z a.m, .z v]) ρ fun _ _ => False := by
  simp only [varsD, varD, List.cons.injEq, Dt.z.injEq, Dt.l.injEq, b2i_eq_iff, Nat.reduceAdd, and_true] at g
  simp only [sT_whas, sP_whas, sF_wmay, sF_rhas, sF_qhas, sV_wmay, sV_rhas, sV_qhas, sF_whas, sV_whas, Tr.asks, upd_same, okDs, okD, eqs, E.I, E.B, E.L, E.R, E.D, E.vs, dI, dB, dL, varD, varsD, List.getElem?_cons_zero, List.getElem?_cons_succ, List.cons_append, List.nil_append, Nat.zero_add, Nat.add_zero, Nat.reduceAdd, and_true, true_and, b2i_one, -eq_self, Kn.eta, Pi.eta, Pu.eta, Rg.eta, Sc.eta, Sc.eta_r, Sc.eta_k, Sc.eta_2, g]
  intro e; (try simp only [e, Kn.eta, Pi.eta, Pu.eta, Rg.eta, Sc.eta, Sc.eta_r, Sc.eta_k, Sc.eta_2, -eq_self]); clear e
  refine ⟨fun c0 => ?_, fun c0 => ?_⟩
  intro e; (try simp only [e, Kn.eta, Pi.eta, Pu.eta, Rg.eta, Sc.eta, Sc.eta_r, Sc.eta_k, Sc.eta_2, -eq_self]); clear e
  refine ⟨fun c1 => ?_, fun c1 => ?_⟩
  intro e; (try simp only [e, Kn.eta, Pi.eta, Pu.eta, Rg.eta, Sc.eta, Sc.eta_r, Sc.eta_k, Sc.eta_2, -eq_self]); clear e
  · (unfold vhas; simp_all)
  · (unfold vhas; simp_all)
  · (unfold vhas; simp_all)
theorem sK_whas {sp : Spec} {key : Nat} (hF : sp.F key = sF_whas) (hP : sp.pre key = fun _ => True := by rfl) : SmOk Try.prog sp (sM_whas key) :=
  fun_ok (s := sM_whas key) hF hP (by kernel_rfl) tysok_VrA (smc (sK_wmay rfl) (smc (sK_rhas rfl) (smc (sK_qhas rfl) sm0))) Try.func55 fn0 sR_whas (.inl rfl) (fun x0 gx0 x1 gx1 x2 gx2 x3 gx3 x4 gx4 x5 gx5 x6 gx6 hp ρ g => sX_whas ⟨x0, x1, x2, x3, x4, x5⟩ ⟨gx0, gx1, gx2, gx3, gx4, gx5⟩ x6 gx6 ρ g)
def sM_wonce (key : Nat) : Sm := ⟨108, key, [.agg kSc], [.agg kSc, .one .bool], true⟩
def sV_wonce (a : Sc) : List Dt := [.z ((if (vs1 a && vs2 a) = true then vst a else vall).ul), .z ((if (vs1 a && vs2 a) = true then vst a else vall).uh), .z ((if (vs1 a && vs2 a) = true then vst a else vall).sl), .z ((if (vs1 a && vs2 a) = true then vst a else vall).sh), .z ((if (vs1 a && vs2 a) = true then vst a else vall).v), .z ((if (vs1 a && vs2 a) = true then vst a else vall).m), .z (b2i ((vs1 a && vs2 a)))]
def sF_wonce : List Dt → List Dt
  | [.z x0, .z x1, .z x2, .z x3, .z x4, .z x5] => sV_wonce ⟨x0, x1, x2, x3, x4, x5⟩
  | _ => []
def sT_wonce : Tr :=
(.call 0 (kRg) .nil 6
(.call 2 (kRg ++ [.bool]) (.vs 0 5 (.cons (.bin .or .u64 (.var 4) (.var 5)) (.vs 8 2 .nil))) 10
(.br (.bvar 14)
(.call 4 (kKn) (.vs 10 2 .nil) 15
(.call 3 (kKn ++ [.bool]) (.vs 4 2 (.vs 15 2 .nil)) 17
(.br (.bvar 19)
(.leaf (.vs 10 4 (.vs 17 2 (.consb (.tt true) .nil))))
(.call 1 (kSc) .nil 20
(.leaf (.vs 20 6 (.consb (.tt false) .nil)))))))
(.call 1 (kSc) .nil 15
(.leaf (.vs 15 6 (.consb (.tt false) .nil)))))))
def sP_wonce : Spec := ⟨fun k => match k with | 0 => sF_rall | 1 => sF_wall | 2 => sF_rmeet | 3 => sF_qmeet | 4 => sF_qcom | _ => fun _ => [], fun k => match k with | _ => fun _ => True⟩
set_option maxRecDepth 100000 in
theorem sR_wonce : treeIs tys_VrA [sM_rall 0, sM_wall 1, sM_rmeet 2, sM_qmeet 3, sM_qcom 4] [] [] [] 200 Try.f108 [.agg kSc] [.agg kSc, .one .bool] true [.int .u64, .int .u64, .int .i64, .int .i64, .int .u64, .int .u64] sT_wonce := ⟨by kernel_rfl, by kernel_rfl, by kernel_rfl⟩
set_option maxRecDepth 100000 in
set_option maxHeartbeats 8000000 in
theorem sX_wonce (a : Sc) (ha : Sc.ok a) (ρ : Env) (g : varsD ρ 0 [.int .u64, .int .u64, .int .i64, .int .i64, .int .u64, .int .u64] = [.z a.ul, .z a.uh, .z a.sl, .z a.sh, .z a.v, .z a.m]) : sT_wonce.asks sP_wonce (fun ρ e => e.D ρ = sF_wonce [.z a.ul, .z a.uh, .z a.sl, .z a.sh, .z a.v, .z a.m]) ρ fun _ _ => False := by
  simp only [varsD, varD, List.cons.injEq, Dt.z.injEq, Dt.l.injEq, b2i_eq_iff, Nat.reduceAdd, and_true] at g
  simp only [sT_wonce, sP_wonce, kKn, kRg, kSc, sF_rall, sF_wall, sF_rmeet, sF_qmeet, sF_qcom, sV_rmeet, sV_qmeet, sV_qcom, sF_wonce, sV_wonce, Tr.asks, upd_same, okDs, okD, eqs, E.I, E.B, E.L, E.R, E.D, E.vs, dI, dB, dL, varD, varsD, List.getElem?_cons_zero, List.getElem?_cons_succ, List.cons_append, List.nil_append, Nat.zero_add, Nat.add_zero, Nat.reduceAdd, and_true, true_and, b2i_one, -eq_self, Kn.eta, Pi.eta, Pu.eta, Rg.eta, Sc.eta, Sc.eta_r, Sc.eta_k, Sc.eta_2, g]
  intro e; (try simp only [e, Kn.eta, Pi.eta, Pu.eta, Rg.eta, Sc.eta, Sc.eta_r, Sc.eta_k, Sc.eta_2, -eq_self]); clear e
  intro e; (try simp only [e, Kn.eta, Pi.eta, Pu.eta, Rg.eta, Sc.eta, Sc.eta_r, Sc.eta_k, Sc.eta_2, -eq_self]); clear e
  refine ⟨fun c0 => ?_, fun c0 => ?_⟩
  intro e; (try simp only [e, Kn.eta, Pi.eta, Pu.eta, Rg.eta, Sc.eta, Sc.eta_r, Sc.eta_k, Sc.eta_2, -eq_self]); clear e
  intro e; (try simp only [e, Kn.eta, Pi.eta, Pu.eta, Rg.eta, Sc.eta, Sc.eta_r, Sc.eta_k, Sc.eta_2, -eq_self]); clear e
  refine ⟨fun c1 => ?_, fun c1 => ?_⟩
  · (have q := wo_3 (a := a) (Sc.wf_of ha) c0 c1; first | (rw [q.1, q.2]; try rfl) | (simp only [q.1, q.2]; rfl))
  intro e; (try simp only [e, Kn.eta, Pi.eta, Pu.eta, Rg.eta, Sc.eta, Sc.eta_r, Sc.eta_k, Sc.eta_2, -eq_self]); clear e
  · (have q := wo_2 (a := a) (Sc.wf_of ha) c0 c1; first | (rw [q.1, q.2]; try rfl) | (simp only [q.1, q.2]; rfl))
  intro e; (try simp only [e, Kn.eta, Pi.eta, Pu.eta, Rg.eta, Sc.eta, Sc.eta_r, Sc.eta_k, Sc.eta_2, -eq_self]); clear e
  · (have q := wo_1 (a := a) (Sc.wf_of ha) c0; first | (rw [q.1, q.2]; try rfl) | (simp only [q.1, q.2]; rfl))
theorem sK_wonce {sp : Spec} {key : Nat} (hF : sp.F key = sF_wonce) (hP : sp.pre key = fun _ => True := by rfl) : SmOk Try.prog sp (sM_wonce key) :=
  fun_ok (s := sM_wonce key) hF hP (by kernel_rfl) tysok_VrA (smc (sK_rall rfl) (smc (sK_wall rfl) (smc (sK_rmeet rfl) (smc (sK_qmeet rfl) (smc (sK_qcom rfl) sm0))))) Try.func108 fn0 sR_wonce (.inl rfl) (fun x0 gx0 x1 gx1 x2 gx2 x3 gx3 x4 gx4 x5 gx5 hp ρ g => sX_wonce ⟨x0, x1, x2, x3, x4, x5⟩ ⟨gx0, gx1, gx2, gx3, gx4, gx5⟩ ρ g)
def sM_wnar (key : Nat) : Sm := ⟨74, key, [.agg kSc], [.agg kSc, .one .bool], true⟩
def sV_wnar (a : Sc) : List Dt := [.z ((vnar a).ul), .z ((vnar a).uh), .z ((vnar a).sl), .z ((vnar a).sh), .z ((vnar a).v), .z ((vnar a).m), .z (b2i (vnok a))]
def sF_wnar : List Dt → List Dt
  | [.z x0, .z x1, .z x2, .z x3, .z x4, .z x5] => sV_wnar ⟨x0, x1, x2, x3, x4, x5⟩
  | _ => []
def sT_wnar : Tr :=
(.call 0 ([.bool]) (.vs 0 6 .nil) 6
(.br (.bvar 6)
(.call 2 (kSc ++ [.bool]) (.vs 0 6 .nil) 7
(.br (.bvar 13)
(.call 2 (kSc ++ [.bool]) (.vs 7 6 .nil) 14
(.leaf (.vs 14 6 (.consb (.bvar 20) .nil))))
(.call 1 (kSc) .nil 14
(.leaf (.vs 14 6 (.consb (.tt false) .nil))))))
(.call 1 (kSc) .nil 7
(.leaf (.vs 7 6 (.consb (.tt false) .nil))))))
def sP_wnar : Spec := ⟨fun k => match k with | 0 => sF_wmay | 1 => sF_wall | 2 => sF_wonce | _ => fun _ => [], fun k => match k with | _ => fun _ => True⟩
set_option maxRecDepth 100000 in
theorem sR_wnar : treeIs tys_VrA [sM_wmay 0, sM_wall 1, sM_wonce 2] [] [] [] 200 Try.f74 [.agg kSc] [.agg kSc, .one .bool] true [.int .u64, .int .u64, .int .i64, .int .i64, .int .u64, .int .u64] sT_wnar := ⟨by kernel_rfl, by kernel_rfl, by kernel_rfl⟩
set_option maxRecDepth 100000 in
set_option maxHeartbeats 8000000 in
theorem sX_wnar (a : Sc) (ha : Sc.ok a) (ρ : Env) (g : varsD ρ 0 [.int .u64, .int .u64, .int .i64, .int .i64, .int .u64, .int .u64] = [.z a.ul, .z a.uh, .z a.sl, .z a.sh, .z a.v, .z a.m]) : sT_wnar.asks sP_wnar (fun ρ e => e.D ρ = sF_wnar [.z a.ul, .z a.uh, .z a.sl, .z a.sh, .z a.v, .z a.m]) ρ fun _ _ => False := by
  simp only [varsD, varD, List.cons.injEq, Dt.z.injEq, Dt.l.injEq, b2i_eq_iff, Nat.reduceAdd, and_true] at g
  simp only [sT_wnar, sP_wnar, kSc, sF_wmay, sF_wall, sF_wonce, sV_wmay, sV_wonce, sF_wnar, sV_wnar, Tr.asks, upd_same, okDs, okD, eqs, E.I, E.B, E.L, E.R, E.D, E.vs, dI, dB, dL, varD, varsD, List.getElem?_cons_zero, List.getElem?_cons_succ, List.cons_append, List.nil_append, Nat.zero_add, Nat.add_zero, Nat.reduceAdd, and_true, true_and, b2i_one, -eq_self, Kn.eta, Pi.eta, Pu.eta, Rg.eta, Sc.eta, Sc.eta_r, Sc.eta_k, Sc.eta_2, g]
  intro e; (try simp only [e, Kn.eta, Pi.eta, Pu.eta, Rg.eta, Sc.eta, Sc.eta_r, Sc.eta_k, Sc.eta_2, -eq_self]); clear e
  refine ⟨fun c0 => ?_, fun c0 => ?_⟩
  intro e; (try simp only [e, Kn.eta, Pi.eta, Pu.eta, Rg.eta, Sc.eta, Sc.eta_r, Sc.eta_k, Sc.eta_2, -eq_self]); clear e
  refine ⟨fun c1 => ?_, fun c1 => ?_⟩
  intro e; (try simp only [e, Kn.eta, Pi.eta, Pu.eta, Rg.eta, Sc.eta, Sc.eta_r, Sc.eta_k, Sc.eta_2, -eq_self]); clear e
  · (have q := wn_3 (a := a) c0 c1; first | (rw [q.1, q.2]; try rfl) | (simp only [q.1, q.2]; rfl))
  intro e; (try simp only [e, Kn.eta, Pi.eta, Pu.eta, Rg.eta, Sc.eta, Sc.eta_r, Sc.eta_k, Sc.eta_2, -eq_self]); clear e
  · (have q := wn_2 (a := a) c0 c1; first | (rw [q.1, q.2]; try rfl) | (simp only [q.1, q.2]; rfl))
  intro e; (try simp only [e, Kn.eta, Pi.eta, Pu.eta, Rg.eta, Sc.eta, Sc.eta_r, Sc.eta_k, Sc.eta_2, -eq_self]); clear e
  · (have q := wn_1 (a := a) c0; first | (rw [q.1, q.2]; try rfl) | (simp only [q.1, q.2]; rfl))
theorem sK_wnar {sp : Spec} {key : Nat} (hF : sp.F key = sF_wnar) (hP : sp.pre key = fun _ => True := by rfl) : SmOk Try.prog sp (sM_wnar key) :=
  fun_ok (s := sM_wnar key) hF hP (by kernel_rfl) tysok_VrA (smc (sK_wmay rfl) (smc (sK_wall rfl) (smc (sK_wonce rfl) sm0))) Try.func74 fn0 sR_wnar (.inl rfl) (fun x0 gx0 x1 gx1 x2 gx2 x3 gx3 x4 gx4 x5 gx5 hp ρ g => sX_wnar ⟨x0, x1, x2, x3, x4, x5⟩ ⟨gx0, gx1, gx2, gx3, gx4, gx5⟩ ρ g)
def sM_wnard (key : Nat) : Sm := ⟨132, key, [.agg kSc], [.agg kSc], false⟩
def sV_wnard (a : Sc) : List Dt := [.z ((vnar a).ul), .z ((vnar a).uh), .z ((vnar a).sl), .z ((vnar a).sh), .z ((vnar a).v), .z ((vnar a).m)]
def sF_wnard : List Dt → List Dt
  | [.z x0, .z x1, .z x2, .z x3, .z x4, .z x5] => sV_wnard ⟨x0, x1, x2, x3, x4, x5⟩
  | _ => []
def sT_wnard : Tr :=
(.call 0 (kSc ++ [.bool]) (.vs 0 6 .nil) 6
(.leaf (.vs 6 6 .nil)))
def sP_wnard : Spec := ⟨fun k => match k with | 0 => sF_wnar | _ => fun _ => [], fun k => match k with | _ => fun _ => True⟩
set_option maxRecDepth 100000 in
theorem sR_wnard : treeIs tys_VrA [sM_wnar 0] [] [] [] 200 Try.f132 [.agg kSc] [.agg kSc] false [.int .u64, .int .u64, .int .i64, .int .i64, .int .u64, .int .u64] sT_wnard := ⟨by kernel_rfl, by kernel_rfl, by kernel_rfl⟩
set_option maxRecDepth 100000 in
set_option maxHeartbeats 8000000 in
theorem sX_wnard (a : Sc) (ha : Sc.ok a) (ρ : Env) (g : varsD ρ 0 [.int .u64, .int .u64, .int .i64, .int .i64, .int .u64, .int .u64] = [.z a.ul, .z a.uh, .z a.sl, .z a.sh, .z a.v, .z a.m]) : sT_wnard.asks sP_wnard (fun ρ e => e.D ρ = sF_wnard [.z a.ul, .z a.uh, .z a.sl, .z a.sh, .z a.v, .z a.m]) ρ fun _ _ => False := by
  simp only [varsD, varD, List.cons.injEq, Dt.z.injEq, Dt.l.injEq, b2i_eq_iff, Nat.reduceAdd, and_true] at g
  simp only [sT_wnard, sP_wnard, kSc, sF_wnar, sV_wnar, sF_wnard, sV_wnard, Tr.asks, upd_same, okDs, okD, eqs, E.I, E.B, E.L, E.R, E.D, E.vs, dI, dB, dL, varD, varsD, List.getElem?_cons_zero, List.getElem?_cons_succ, List.cons_append, List.nil_append, Nat.zero_add, Nat.add_zero, Nat.reduceAdd, and_true, true_and, b2i_one, -eq_self, Kn.eta, Pi.eta, Pu.eta, Rg.eta, Sc.eta, Sc.eta_r, Sc.eta_k, Sc.eta_2, g]
  intro e; (try simp only [e, Kn.eta, Pi.eta, Pu.eta, Rg.eta, Sc.eta, Sc.eta_r, Sc.eta_k, Sc.eta_2, -eq_self]); clear e
  · rfl
theorem sK_wnard {sp : Spec} {key : Nat} (hF : sp.F key = sF_wnard) (hP : sp.pre key = fun _ => True := by rfl) : SmOk Try.prog sp (sM_wnard key) :=
  fun_ok (s := sM_wnard key) hF hP (by kernel_rfl) tysok_VrA (smc (sK_wnar rfl) sm0) Try.func132 fn0 sR_wnard (.inl rfl) (fun x0 gx0 x1 gx1 x2 gx2 x3 gx3 x4 gx4 x5 gx5 hp ρ g => sX_wnard ⟨x0, x1, x2, x3, x4, x5⟩ ⟨gx0, gx1, gx2, gx3, gx4, gx5⟩ ρ g)
def sM_wjoin (key : Nat) : Sm := ⟨102, key, [.agg kSc, .agg kSc], [.agg kSc], false⟩
def sV_wjoin (a : Sc) (b : Sc) : List Dt := [.z ((vjoin a b).ul), .z ((vjoin a b).uh), .z ((vjoin a b).sl), .z ((vjoin a b).sh), .z ((vjoin a b).v), .z ((vjoin a b).m)]
def sF_wjoin : List Dt → List Dt
  | [.z x0, .z x1, .z x2, .z x3, .z x4, .z x5, .z x6, .z x7, .z x8, .z x9, .z x10, .z x11] => sV_wjoin ⟨x0, x1, x2, x3, x4, x5⟩ ⟨x6, x7, x8, x9, x10, x11⟩
  | _ => []
def sT_wjoin : Tr :=
(.call 0 ([.bool]) (.vs 0 6 .nil) 12
(.br (.bvar 12)
(.call 0 ([.bool]) (.vs 6 6 .nil) 13
(.br (.bvar 13)
(.call 3 (kRg) (.vs 0 4 (.vs 6 4 .nil)) 14
(.call 4 (kKn) (.vs 4 2 (.vs 10 2 .nil)) 18
(.call 2 (kSc) (.vs 14 6 .nil) 20
(.leaf (.vs 20 6 .nil)))))
(.call 1 (kSc) .nil 14
(.leaf (.vs 14 6 .nil)))))
(.call 1 (kSc) .nil 13
(.leaf (.vs 13 6 .nil)))))
def sP_wjoin : Spec := ⟨fun k => match k with | 0 => sF_wmay | 1 => sF_wall | 2 => sF_wnard | 3 => sF_rjoin | 4 => sF_qjoin | _ => fun _ => [], fun k => match k with | _ => fun _ => True⟩
set_option maxRecDepth 100000 in
theorem sR_wjoin : treeIs tys_VrA [sM_wmay 0, sM_wall 1, sM_wnard 2, sM_rjoin 3, sM_qjoin 4] [] [] [] 200 Try.f102 [.agg kSc, .agg kSc] [.agg kSc] false [.int .u64, .int .u64, .int .i64, .int .i64, .int .u64, .int .u64, .int .u64, .int .u64, .int .i64, .int .i64, .int .u64, .int .u64] sT_wjoin := ⟨by kernel_rfl, by kernel_rfl, by kernel_rfl⟩
set_option maxRecDepth 100000 in
set_option maxHeartbeats 8000000 in
theorem sX_wjoin (a : Sc) (ha : Sc.ok a) (b : Sc) (hb : Sc.ok b) (ρ : Env) (g : varsD ρ 0 [.int .u64, .int .u64, .int .i64, .int .i64, .int .u64, .int .u64, .int .u64, .int .u64, .int .i64, .int .i64, .int .u64, .int .u64] = [.z a.ul, .z a.uh, .z a.sl, .z a.sh, .z a.v, .z a.m, .z b.ul, .z b.uh, .z b.sl, .z b.sh, .z b.v, .z b.m]) : sT_wjoin.asks sP_wjoin (fun ρ e => e.D ρ = sF_wjoin [.z a.ul, .z a.uh, .z a.sl, .z a.sh, .z a.v, .z a.m, .z b.ul, .z b.uh, .z b.sl, .z b.sh, .z b.v, .z b.m]) ρ fun _ _ => False := by
  simp only [varsD, varD, List.cons.injEq, Dt.z.injEq, Dt.l.injEq, b2i_eq_iff, Nat.reduceAdd, and_true] at g
  simp only [sT_wjoin, sP_wjoin, kKn, kRg, kSc, sF_wmay, sF_wall, sF_wnard, sF_rjoin, sF_qjoin, sV_wmay, sV_wnard, sV_rjoin, sV_qjoin, sF_wjoin, sV_wjoin, Tr.asks, upd_same, okDs, okD, eqs, E.I, E.B, E.L, E.R, E.D, E.vs, dI, dB, dL, varD, varsD, List.getElem?_cons_zero, List.getElem?_cons_succ, List.cons_append, List.nil_append, Nat.zero_add, Nat.add_zero, Nat.reduceAdd, and_true, true_and, b2i_one, -eq_self, Kn.eta, Pi.eta, Pu.eta, Rg.eta, Sc.eta, Sc.eta_r, Sc.eta_k, Sc.eta_2, g]
  intro e; (try simp only [e, Kn.eta, Pi.eta, Pu.eta, Rg.eta, Sc.eta, Sc.eta_r, Sc.eta_k, Sc.eta_2, -eq_self]); clear e
  refine ⟨fun c0 => ?_, fun c0 => ?_⟩
  intro e; (try simp only [e, Kn.eta, Pi.eta, Pu.eta, Rg.eta, Sc.eta, Sc.eta_r, Sc.eta_k, Sc.eta_2, -eq_self]); clear e
  refine ⟨fun c1 => ?_, fun c1 => ?_⟩
  intro e; (try simp only [e, Kn.eta, Pi.eta, Pu.eta, Rg.eta, Sc.eta, Sc.eta_r, Sc.eta_k, Sc.eta_2, -eq_self]); clear e
  intro e; (try simp only [e, Kn.eta, Pi.eta, Pu.eta, Rg.eta, Sc.eta, Sc.eta_r, Sc.eta_k, Sc.eta_2, -eq_self]); clear e
  intro e; (try simp only [e, Kn.eta, Pi.eta, Pu.eta, Rg.eta, Sc.eta, Sc.eta_r, Sc.eta_k, Sc.eta_2, -eq_self]); clear e
  · (rw [show vjoin a b = vnar (sc (bjoin a.r b.r) (kjoin a.k b.k)) from if_pos ⟨c0, c1⟩]; try rfl)
  intro e; (try simp only [e, Kn.eta, Pi.eta, Pu.eta, Rg.eta, Sc.eta, Sc.eta_r, Sc.eta_k, Sc.eta_2, -eq_self]); clear e
  · (rw [show vjoin a b = vall from if_neg (fun q => by simp_all)]; try rfl)
  intro e; (try simp only [e, Kn.eta, Pi.eta, Pu.eta, Rg.eta, Sc.eta, Sc.eta_r, Sc.eta_k, Sc.eta_2, -eq_self]); clear e
  · (rw [show vjoin a b = vall from if_neg (fun q => by simp_all)]; try rfl)
theorem sK_wjoin {sp : Spec} {key : Nat} (hF : sp.F key = sF_wjoin) (hP : sp.pre key = fun _ => True := by rfl) : SmOk Try.prog sp (sM_wjoin key) :=
  fun_ok (s := sM_wjoin key) hF hP (by kernel_rfl) tysok_VrA (smc (sK_wmay rfl) (smc (sK_wall rfl) (smc (sK_wnard rfl) (smc (sK_rjoin rfl) (smc (sK_qjoin rfl) sm0))))) Try.func102 fn0 sR_wjoin (.inl rfl) (fun x0 gx0 x1 gx1 x2 gx2 x3 gx3 x4 gx4 x5 gx5 x6 gx6 x7 gx7 x8 gx8 x9 gx9 x10 gx10 x11 gx11 hp ρ g => sX_wjoin ⟨x0, x1, x2, x3, x4, x5⟩ ⟨gx0, gx1, gx2, gx3, gx4, gx5⟩ ⟨x6, x7, x8, x9, x10, x11⟩ ⟨gx6, gx7, gx8, gx9, gx10, gx11⟩ ρ g)
def sM_win (key : Nat) : Sm := ⟨69, key, [.agg kSc, .agg kSc], [.one .bool], false⟩
def sV_win (a : Sc) (b : Sc) : List Dt := [.z (b2i ((bin a.r b.r && kin a.k b.k)))]
def sF_win : List Dt → List Dt
  | [.z x0, .z x1, .z x2, .z x3, .z x4, .z x5, .z x6, .z x7, .z x8, .z x9, .z x10, .z x11] => sV_win ⟨x0, x1, x2, x3, x4, x5⟩ ⟨x6, x7, x8, x9, x10, x11⟩
  | _ => []
def sT_win : Tr :=
(.call 0 ([.bool]) (.vs 0 4 (.vs 6 4 .nil)) 12
(.br (.bvar 12)
(.call 1 ([.bool]) (.vs 4 2 (.vs 10 2 .nil)) 13
(.leaf (.consb (.bvar 13) .nil)))
(.leaf (.consb (.tt false) .nil))))
def sP_win : Spec := ⟨fun k => match k with | 0 => sF_rin | 1 => sF_qin | _ => fun _ => [], fun k => match k with | _ => fun _ => True⟩
set_option maxRecDepth 100000 in
theorem sR_win : treeIs tys_VrA [sM_rin 0, sM_qin 1] [] [] [] 200 Try.f69 [.agg kSc, .agg kSc] [.one .bool] false [.int .u64, .int .u64, .int .i64, .int .i64, .int .u64, .int .u64, .int .u64, .int .u64, .int .i64, .int .i64, .int .u64, .int .u64] sT_win := ⟨by kernel_rfl, by kernel_rfl, by kernel_rfl⟩
set_option maxRecDepth 100000 in
set_option maxHeartbeats 8000000 in
theorem sX_win (a : Sc) (ha : Sc.ok a) (b : Sc) (hb : Sc.ok b) (ρ : Env) (g : varsD ρ 0 [.int .u64, .int .u64, .int .i64, .int .i64, .int .u64, .int .u64, .int .u64, .int .u64, .int .i64, .int .i64, .int .u64, .int .u64] = [.z a.ul, .z a.uh, .z a.sl, .z a.sh, .z a.v, .z a.m, .z b.ul, .z b.uh, .z b.sl, .z b.sh, .z b.v, .z b.m]) : sT_win.asks sP_win (fun ρ e => e.D ρ = sF_win [.z a.ul, .z a.uh, .z a.sl, .z a.sh, .z a.v, .z a.m, .z b.ul, .z b.uh, .z b.sl, .z b.sh, .z b.v, .z b.m]) ρ fun _ _ => False := by
  simp only [varsD, varD, List.cons.injEq, Dt.z.injEq, Dt.l.injEq, b2i_eq_iff, Nat.reduceAdd, and_true] at g
  simp only [sT_win, sP_win, sF_rin, sF_qin, sV_rin, sV_qin, sF_win, sV_win, Tr.asks, upd_same, okDs, okD, eqs, E.I, E.B, E.L, E.R, E.D, E.vs, dI, dB, dL, varD, varsD, List.getElem?_cons_zero, List.getElem?_cons_succ, List.cons_append, List.nil_append, Nat.zero_add, Nat.add_zero, Nat.reduceAdd, and_true, true_and, b2i_one, -eq_self, Kn.eta, Pi.eta, Pu.eta, Rg.eta, Sc.eta, Sc.eta_r, Sc.eta_k, Sc.eta_2, g]
  intro e; (try simp only [e, Kn.eta, Pi.eta, Pu.eta, Rg.eta, Sc.eta, Sc.eta_r, Sc.eta_k, Sc.eta_2, -eq_self]); clear e
  refine ⟨fun c0 => ?_, fun c0 => ?_⟩
  intro e; (try simp only [e, Kn.eta, Pi.eta, Pu.eta, Rg.eta, Sc.eta, Sc.eta_r, Sc.eta_k, Sc.eta_2, -eq_self]); clear e
  · (simp_all)
  · (simp_all)
theorem sK_win {sp : Spec} {key : Nat} (hF : sp.F key = sF_win) (hP : sp.pre key = fun _ => True := by rfl) : SmOk Try.prog sp (sM_win key) :=
  fun_ok (s := sM_win key) hF hP (by kernel_rfl) tysok_VrA (smc (sK_rin rfl) (smc (sK_qin rfl) sm0)) Try.func69 fn0 sR_win (.inl rfl) (fun x0 gx0 x1 gx1 x2 gx2 x3 gx3 x4 gx4 x5 gx5 x6 gx6 x7 gx7 x8 gx8 x9 gx9 x10 gx10 x11 gx11 hp ρ g => sX_win ⟨x0, x1, x2, x3, x4, x5⟩ ⟨gx0, gx1, gx2, gx3, gx4, gx5⟩ ⟨x6, x7, x8, x9, x10, x11⟩ ⟨gx6, gx7, gx8, gx9, gx10, gx11⟩ ρ g)
def sM_wwid (key : Nat) : Sm := ⟨101, key, [.agg kSc, .agg kSc], [.agg kSc], false⟩
def sV_wwid (a : Sc) (b : Sc) : List Dt := [.z ((vwid a b).ul), .z ((vwid a b).uh), .z ((vwid a b).sl), .z ((vwid a b).sh), .z ((vwid a b).v), .z ((vwid a b).m)]
def sF_wwid : List Dt → List Dt
  | [.z x0, .z x1, .z x2, .z x3, .z x4, .z x5, .z x6, .z x7, .z x8, .z x9, .z x10, .z x11] => sV_wwid ⟨x0, x1, x2, x3, x4, x5⟩ ⟨x6, x7, x8, x9, x10, x11⟩
  | _ => []
def sT_wwid : Tr :=
(.call 0 ([.bool]) (.vs 0 6 .nil) 12
(.br (.bvar 12)
(.call 0 ([.bool]) (.vs 6 6 .nil) 13
(.br (.bvar 13)
(.call 2 (kRg) .nil 14
(.br (.lt (.var 6) (.var 0))
(.br (.lt (.var 1) (.var 7))
(.br (.lt (.var 8) (.var 2))
(.br (.lt (.var 3) (.var 9))
(.call 4 (kKn) (.vs 4 2 (.vs 10 2 .nil)) 18
(.call 3 (kSc) (.vs 14 6 .nil) 20
(.leaf (.vs 20 6 .nil))))
(.call 4 (kKn) (.vs 4 2 (.vs 10 2 .nil)) 18
(.call 3 (kSc) (.vs 14 3 (.cons (.var 3) (.vs 18 2 .nil))) 20
(.leaf (.vs 20 6 .nil)))))
(.br (.lt (.var 3) (.var 9))
(.call 4 (kKn) (.vs 4 2 (.vs 10 2 .nil)) 18
(.call 3 (kSc) (.vs 14 2 (.cons (.var 2) (.vs 17 3 .nil))) 20
(.leaf (.vs 20 6 .nil))))
(.call 4 (kKn) (.vs 4 2 (.vs 10 2 .nil)) 18
(.call 3 (kSc) (.vs 14 2 (.vs 2 2 (.vs 18 2 .nil))) 20
(.leaf (.vs 20 6 .nil))))))
(.br (.lt (.var 8) (.var 2))
(.br (.lt (.var 3) (.var 9))
(.call 4 (kKn) (.vs 4 2 (.vs 10 2 .nil)) 18
(.call 3 (kSc) (.cons (.var 14) (.cons (.var 1) (.vs 16 4 .nil))) 20
(.leaf (.vs 20 6 .nil))))
(.call 4 (kKn) (.vs 4 2 (.vs 10 2 .nil)) 18
(.call 3 (kSc) (.cons (.var 14) (.cons (.var 1) (.cons (.var 16) (.cons (.var 3) (.vs 18 2 .nil))))) 20
(.leaf (.vs 20 6 .nil)))))
(.br (.lt (.var 3) (.var 9))
(.call 4 (kKn) (.vs 4 2 (.vs 10 2 .nil)) 18
(.call 3 (kSc) (.cons (.var 14) (.vs 1 2 (.vs 17 3 .nil))) 20
(.leaf (.vs 20 6 .nil))))
(.call 4 (kKn) (.vs 4 2 (.vs 10 2 .nil)) 18
(.call 3 (kSc) (.cons (.var 14) (.vs 1 3 (.vs 18 2 .nil))) 20
(.leaf (.vs 20 6 .nil)))))))
(.br (.lt (.var 1) (.var 7))
(.br (.lt (.var 8) (.var 2))
(.br (.lt (.var 3) (.var 9))
(.call 4 (kKn) (.vs 4 2 (.vs 10 2 .nil)) 18
(.call 3 (kSc) (.cons (.var 0) (.vs 15 5 .nil)) 20
(.leaf (.vs 20 6 .nil))))
(.call 4 (kKn) (.vs 4 2 (.vs 10 2 .nil)) 18
(.call 3 (kSc) (.cons (.var 0) (.vs 15 2 (.cons (.var 3) (.vs 18 2 .nil)))) 20
(.leaf (.vs 20 6 .nil)))))
(.br (.lt (.var 3) (.var 9))
(.call 4 (kKn) (.vs 4 2 (.vs 10 2 .nil)) 18
(.call 3 (kSc) (.cons (.var 0) (.cons (.var 15) (.cons (.var 2) (.vs 17 3 .nil)))) 20
(.leaf (.vs 20 6 .nil))))
(.call 4 (kKn) (.vs 4 2 (.vs 10 2 .nil)) 18
(.call 3 (kSc) (.cons (.var 0) (.cons (.var 15) (.vs 2 2 (.vs 18 2 .nil)))) 20
(.leaf (.vs 20 6 .nil))))))
(.br (.lt (.var 8) (.var 2))
(.br (.lt (.var 3) (.var 9))
(.call 4 (kKn) (.vs 4 2 (.vs 10 2 .nil)) 18
(.call 3 (kSc) (.vs 0 2 (.vs 16 4 .nil)) 20
(.leaf (.vs 20 6 .nil))))
(.call 4 (kKn) (.vs 4 2 (.vs 10 2 .nil)) 18
(.call 3 (kSc) (.vs 0 2 (.cons (.var 16) (.cons (.var 3) (.vs 18 2 .nil)))) 20
(.leaf (.vs 20 6 .nil)))))
(.br (.lt (.var 3) (.var 9))
(.call 4 (kKn) (.vs 4 2 (.vs 10 2 .nil)) 18
(.call 3 (kSc) (.vs 0 3 (.vs 17 3 .nil)) 20
(.leaf (.vs 20 6 .nil))))
(.call 4 (kKn) (.vs 4 2 (.vs 10 2 .nil)) 18
(.call 3 (kSc) (.vs 0 4 (.vs 18 2 .nil)) 20
(.leaf (.vs 20 6 .nil)))))))))
(.call 1 (kSc) .nil 14
(.leaf (.vs 14 6 .nil)))))
(.call 1 (kSc) .nil 13
(.leaf (.vs 13 6 .nil)))))
def sP_wwid : Spec := ⟨fun k => match k with | 0 => sF_wmay | 1 => sF_wall | 2 => sF_rall | 3 => sF_wnard | 4 => sF_qjoin | _ => fun _ => [], fun k => match k with | _ => fun _ => True⟩
set_option maxRecDepth 100000 in
theorem sR_wwid : treeIs tys_VrA [sM_wmay 0, sM_wall 1, sM_rall 2, sM_wnard 3, sM_qjoin 4] [] [] [] 200 Try.f101 [.agg kSc, .agg kSc] [.agg kSc] false [.int .u64, .int .u64, .int .i64, .int .i64, .int .u64, .int .u64, .int .u64, .int .u64, .int .i64, .int .i64, .int .u64, .int .u64] sT_wwid := ⟨by kernel_rfl, by kernel_rfl, by kernel_rfl⟩
set_option maxRecDepth 100000 in
set_option maxHeartbeats 8000000 in
theorem sX_wwid (a : Sc) (ha : Sc.ok a) (b : Sc) (hb : Sc.ok b) (ρ : Env) (g : varsD ρ 0 [.int .u64, .int .u64, .int .i64, .int .i64, .int .u64, .int .u64, .int .u64, .int .u64, .int .i64, .int .i64, .int .u64, .int .u64] = [.z a.ul, .z a.uh, .z a.sl, .z a.sh, .z a.v, .z a.m, .z b.ul, .z b.uh, .z b.sl, .z b.sh, .z b.v, .z b.m]) : sT_wwid.asks sP_wwid (fun ρ e => e.D ρ = sF_wwid [.z a.ul, .z a.uh, .z a.sl, .z a.sh, .z a.v, .z a.m, .z b.ul, .z b.uh, .z b.sl, .z b.sh, .z b.v, .z b.m]) ρ fun _ _ => False := by
  simp only [varsD, varD, List.cons.injEq, Dt.z.injEq, Dt.l.injEq, b2i_eq_iff, Nat.reduceAdd, and_true] at g
  simp only [sT_wwid, sP_wwid, kKn, kRg, kSc, sF_wmay, sF_wall, sF_rall, sF_wnard, sF_qjoin, sV_wmay, sV_wnard, sV_qjoin, sF_wwid, sV_wwid, Tr.asks, upd_same, okDs, okD, eqs, E.I, E.B, E.L, E.R, E.D, E.vs, dI, dB, dL, varD, varsD, List.getElem?_cons_zero, List.getElem?_cons_succ, List.cons_append, List.nil_append, Nat.zero_add, Nat.add_zero, Nat.reduceAdd, and_true, true_and, b2i_one, -eq_self, Kn.eta, Pi.eta, Pu.eta, Rg.eta, Sc.eta, Sc.eta_r, Sc.eta_k, Sc.eta_2, g]
  intro e; (try simp only [e, Kn.eta, Pi.eta, Pu.eta, Rg.eta, Sc.eta, Sc.eta_r, Sc.eta_k, Sc.eta_2, -eq_self]); clear e
  refine ⟨fun c0 => ?_, fun c0 => ?_⟩
  intro e; (try simp only [e, Kn.eta, Pi.eta, Pu.eta, Rg.eta, Sc.eta, Sc.eta_r, Sc.eta_k, Sc.eta_2, -eq_self]); clear e
  refine ⟨fun c1 => ?_, fun c1 => ?_⟩
  intro e; (try simp only [e, Kn.eta, Pi.eta, Pu.eta, Rg.eta, Sc.eta, Sc.eta_r, Sc.eta_k, Sc.eta_2, -eq_self]); clear e
  refine ⟨fun c2 => ?_, fun c2 => ?_⟩
  refine ⟨fun c3 => ?_, fun c3 => ?_⟩
  refine ⟨fun c4 => ?_, fun c4 => ?_⟩
  refine ⟨fun c5 => ?_, fun c5 => ?_⟩
  intro e; (try simp only [e, Kn.eta, Pi.eta, Pu.eta, Rg.eta, Sc.eta, Sc.eta_r, Sc.eta_k, Sc.eta_2, -eq_self]); clear e
  intro e; (try simp only [e, Kn.eta, Pi.eta, Pu.eta, Rg.eta, Sc.eta, Sc.eta_r, Sc.eta_k, Sc.eta_2, -eq_self]); clear e
  · exact agg_Sc (vwid_mk c0 c1 (bwid_mk (bw_t c2) (bx_t c3) (bw_t c4) (bx_t c5))).symm
  intro e; (try simp only [e, Kn.eta, Pi.eta, Pu.eta, Rg.eta, Sc.eta, Sc.eta_r, Sc.eta_k, Sc.eta_2, -eq_self]); clear e
  intro e; (try simp only [e, Kn.eta, Pi.eta, Pu.eta, Rg.eta, Sc.eta, Sc.eta_r, Sc.eta_k, Sc.eta_2, -eq_self]); clear e
  · exact agg_Sc (vwid_mk c0 c1 (bwid_mk (bw_t c2) (bx_t c3) (bw_t c4) (bx_f c5))).symm
  refine ⟨fun c6 => ?_, fun c6 => ?_⟩
  intro e; (try simp only [e, Kn.eta, Pi.eta, Pu.eta, Rg.eta, Sc.eta, Sc.eta_r, Sc.eta_k, Sc.eta_2, -eq_self]); clear e
  intro e; (try simp only [e, Kn.eta, Pi.eta, Pu.eta, Rg.eta, Sc.eta, Sc.eta_r, Sc.eta_k, Sc.eta_2, -eq_self]); clear e
  · exact agg_Sc (vwid_mk c0 c1 (bwid_mk (bw_t c2) (bx_t c3) (bw_f c4) (bx_t c6))).symm
  intro e; (try simp only [e, Kn.eta, Pi.eta, Pu.eta, Rg.eta, Sc.eta, Sc.eta_r, Sc.eta_k, Sc.eta_2, -eq_self]); clear e
  intro e; (try simp only [e, Kn.eta, Pi.eta, Pu.eta, Rg.eta, Sc.eta, Sc.eta_r, Sc.eta_k, Sc.eta_2, -eq_self]); clear e
  · exact agg_Sc (vwid_mk c0 c1 (bwid_mk (bw_t c2) (bx_t c3) (bw_f c4) (bx_f c6))).symm
  refine ⟨fun c7 => ?_, fun c7 => ?_⟩
  refine ⟨fun c8 => ?_, fun c8 => ?_⟩
  intro e; (try simp only [e, Kn.eta, Pi.eta, Pu.eta, Rg.eta, Sc.eta, Sc.eta_r, Sc.eta_k, Sc.eta_2, -eq_self]); clear e
  intro e; (try simp only [e, Kn.eta, Pi.eta, Pu.eta, Rg.eta, Sc.eta, Sc.eta_r, Sc.eta_k, Sc.eta_2, -eq_self]); clear e
  · exact agg_Sc (vwid_mk c0 c1 (bwid_mk (bw_t c2) (bx_f c3) (bw_t c7) (bx_t c8))).symm
  intro e; (try simp only [e, Kn.eta, Pi.eta, Pu.eta, Rg.eta, Sc.eta, Sc.eta_r, Sc.eta_k, Sc.eta_2, -eq_self]); clear e
  intro e; (try simp only [e, Kn.eta, Pi.eta, Pu.eta, Rg.eta, Sc.eta, Sc.eta_r, Sc.eta_k, Sc.eta_2, -eq_self]); clear e
  · exact agg_Sc (vwid_mk c0 c1 (bwid_mk (bw_t c2) (bx_f c3) (bw_t c7) (bx_f c8))).symm
  refine ⟨fun c9 => ?_, fun c9 => ?_⟩
  intro e; (try simp only [e, Kn.eta, Pi.eta, Pu.eta, Rg.eta, Sc.eta, Sc.eta_r, Sc.eta_k, Sc.eta_2, -eq_self]); clear e
  intro e; (try simp only [e, Kn.eta, Pi.eta, Pu.eta, Rg.eta, Sc.eta, Sc.eta_r, Sc.eta_k, Sc.eta_2, -eq_self]); clear e
  · exact agg_Sc (vwid_mk c0 c1 (bwid_mk (bw_t c2) (bx_f c3) (bw_f c7) (bx_t c9))).symm
  intro e; (try simp only [e, Kn.eta, Pi.eta, Pu.eta, Rg.eta, Sc.eta, Sc.eta_r, Sc.eta_k, Sc.eta_2, -eq_self]); clear e
  intro e; (try simp only [e, Kn.eta, Pi.eta, Pu.eta, Rg.eta, Sc.eta, Sc.eta_r, Sc.eta_k, Sc.eta_2, -eq_self]); clear e
  · exact agg_Sc (vwid_mk c0 c1 (bwid_mk (bw_t c2) (bx_f c3) (bw_f c7) (bx_f c9))).symm
  refine ⟨fun c10 => ?_, fun c10 => ?_⟩
  refine ⟨fun c11 => ?_, fun c11 => ?_⟩
  refine ⟨fun c12 => ?_, fun c12 => ?_⟩
  intro e; (try simp only [e, Kn.eta, Pi.eta, Pu.eta, Rg.eta, Sc.eta, Sc.eta_r, Sc.eta_k, Sc.eta_2, -eq_self]); clear e
  intro e; (try simp only [e, Kn.eta, Pi.eta, Pu.eta, Rg.eta, Sc.eta, Sc.eta_r, Sc.eta_k, Sc.eta_2, -eq_self]); clear e
  · exact agg_Sc (vwid_mk c0 c1 (bwid_mk (bw_f c2) (bx_t c10) (bw_t c11) (bx_t c12))).symm
  intro e; (try simp only [e, Kn.eta, Pi.eta, Pu.eta, Rg.eta, Sc.eta, Sc.eta_r, Sc.eta_k, Sc.eta_2, -eq_self]); clear e
  intro e; (try simp only [e, Kn.eta, Pi.eta, Pu.eta, Rg.eta, Sc.eta, Sc.eta_r, Sc.eta_k, Sc.eta_2, -eq_self]); clear e
  · exact agg_Sc (vwid_mk c0 c1 (bwid_mk (bw_f c2) (bx_t c10) (bw_t c11) (bx_f c12))).symm
  refine ⟨fun c13 => ?_, fun c13 => ?_⟩
  intro e; (try simp only [e, Kn.eta, Pi.eta, Pu.eta, Rg.eta, Sc.eta, Sc.eta_r, Sc.eta_k, Sc.eta_2, -eq_self]); clear e
  intro e; (try simp only [e, Kn.eta, Pi.eta, Pu.eta, Rg.eta, Sc.eta, Sc.eta_r, Sc.eta_k, Sc.eta_2, -eq_self]); clear e
  · exact agg_Sc (vwid_mk c0 c1 (bwid_mk (bw_f c2) (bx_t c10) (bw_f c11) (bx_t c13))).symm
  intro e; (try simp only [e, Kn.eta, Pi.eta, Pu.eta, Rg.eta, Sc.eta, Sc.eta_r, Sc.eta_k, Sc.eta_2, -eq_self]); clear e
  intro e; (try simp only [e, Kn.eta, Pi.eta, Pu.eta, Rg.eta, Sc.eta, Sc.eta_r, Sc.eta_k, Sc.eta_2, -eq_self]); clear e
  · exact agg_Sc (vwid_mk c0 c1 (bwid_mk (bw_f c2) (bx_t c10) (bw_f c11) (bx_f c13))).symm
  refine ⟨fun c14 => ?_, fun c14 => ?_⟩
  refine ⟨fun c15 => ?_, fun c15 => ?_⟩
  intro e; (try simp only [e, Kn.eta, Pi.eta, Pu.eta, Rg.eta, Sc.eta, Sc.eta_r, Sc.eta_k, Sc.eta_2, -eq_self]); clear e
  intro e; (try simp only [e, Kn.eta, Pi.eta, Pu.eta, Rg.eta, Sc.eta, Sc.eta_r, Sc.eta_k, Sc.eta_2, -eq_self]); clear e
  · exact agg_Sc (vwid_mk c0 c1 (bwid_mk (bw_f c2) (bx_f c10) (bw_t c14) (bx_t c15))).symm
  intro e; (try simp only [e, Kn.eta, Pi.eta, Pu.eta, Rg.eta, Sc.eta, Sc.eta_r, Sc.eta_k, Sc.eta_2, -eq_self]); clear e
  intro e; (try simp only [e, Kn.eta, Pi.eta, Pu.eta, Rg.eta, Sc.eta, Sc.eta_r, Sc.eta_k, Sc.eta_2, -eq_self]); clear e
  · exact agg_Sc (vwid_mk c0 c1 (bwid_mk (bw_f c2) (bx_f c10) (bw_t c14) (bx_f c15))).symm
  refine ⟨fun c16 => ?_, fun c16 => ?_⟩
  intro e; (try simp only [e, Kn.eta, Pi.eta, Pu.eta, Rg.eta, Sc.eta, Sc.eta_r, Sc.eta_k, Sc.eta_2, -eq_self]); clear e
  intro e; (try simp only [e, Kn.eta, Pi.eta, Pu.eta, Rg.eta, Sc.eta, Sc.eta_r, Sc.eta_k, Sc.eta_2, -eq_self]); clear e
  · exact agg_Sc (vwid_mk c0 c1 (bwid_mk (bw_f c2) (bx_f c10) (bw_f c14) (bx_t c16))).symm
  intro e; (try simp only [e, Kn.eta, Pi.eta, Pu.eta, Rg.eta, Sc.eta, Sc.eta_r, Sc.eta_k, Sc.eta_2, -eq_self]); clear e
  intro e; (try simp only [e, Kn.eta, Pi.eta, Pu.eta, Rg.eta, Sc.eta, Sc.eta_r, Sc.eta_k, Sc.eta_2, -eq_self]); clear e
  · exact agg_Sc (vwid_mk c0 c1 (bwid_mk (bw_f c2) (bx_f c10) (bw_f c14) (bx_f c16))).symm
  intro e; (try simp only [e, Kn.eta, Pi.eta, Pu.eta, Rg.eta, Sc.eta, Sc.eta_r, Sc.eta_k, Sc.eta_2, -eq_self]); clear e
  · (rw [show vwid a b = vall from if_neg (fun q => by simp_all)]; try rfl)
  intro e; (try simp only [e, Kn.eta, Pi.eta, Pu.eta, Rg.eta, Sc.eta, Sc.eta_r, Sc.eta_k, Sc.eta_2, -eq_self]); clear e
  · (rw [show vwid a b = vall from if_neg (fun q => by simp_all)]; try rfl)
theorem sK_wwid {sp : Spec} {key : Nat} (hF : sp.F key = sF_wwid) (hP : sp.pre key = fun _ => True := by rfl) : SmOk Try.prog sp (sM_wwid key) :=
  fun_ok (s := sM_wwid key) hF hP (by kernel_rfl) tysok_VrA (smc (sK_wmay rfl) (smc (sK_wall rfl) (smc (sK_rall rfl) (smc (sK_wnard rfl) (smc (sK_qjoin rfl) sm0))))) Try.func101 fn0 sR_wwid (.inl rfl) (fun x0 gx0 x1 gx1 x2 gx2 x3 gx3 x4 gx4 x5 gx5 x6 gx6 x7 gx7 x8 gx8 x9 gx9 x10 gx10 x11 gx11 hp ρ g => sX_wwid ⟨x0, x1, x2, x3, x4, x5⟩ ⟨gx0, gx1, gx2, gx3, gx4, gx5⟩ ⟨x6, x7, x8, x9, x10, x11⟩ ⟨gx6, gx7, gx8, gx9, gx10, gx11⟩ ρ g)
end Go.Proofs.Ytcfnglbcgkappaa

