/- Contracts of the document's own packages of layers 8 and 9, by the symbolic run. -/
import Derived.Test.YtcfnglbcgkappaaGreatVrL
import Derived.Test.YtcfnglbcgkappaaGreatVqA
import Derived.Test.YtcfnglbcgkappaaGreatProg
import Derived.Laws.Externs
set_option linter.unusedVariables false
set_option linter.unusedSimpArgs false
namespace Go.Proofs.YtcfnglbcgkappaaGreat
open Go.RowKit Go.ChangeShapes Go.WideShapes

def tys_VrA : List (Nat × TI) := [(2, ⟨false, 1, [.int .i64 (.lit 0)], [], none, some .i64, false, false, none, 8, false⟩),
 (3, ⟨false, 1, [.int .i64 (.lit 0)], [], none, some .i64, false, false, none, 8, false⟩),
 (22, ⟨false, 1, [.int .i8 (.lit 0)], [], none, some .i8, false, false, none, 1, false⟩),
 (23, ⟨false, 1, [.int .u64 (.lit 0)], [], none, some .u64, false, false, none, 8, false⟩),
 (25, ⟨true, 4, [.int .u64 (.lit 0), .int .u64 (.lit 0), .int .i64 (.lit 0), .int .i64 (.lit 0)], [(0, 23), (1, 23), (2, 2), (3, 2)], none, none, false, false, none, 32, false⟩),
 (27, ⟨true, 2, [.int .u64 (.lit 0), .int .u64 (.lit 0)], [(0, 23), (1, 23)], none, none, false, false, none, 16, false⟩),
 (29, ⟨true, 6, [.int .u64 (.lit 0), .int .u64 (.lit 0), .int .i64 (.lit 0), .int .i64 (.lit 0), .int .u64 (.lit 0), .int .u64 (.lit 0)], [(0, 25), (4, 27)], none, none, false, false, none, 48, false⟩),
 (58, ⟨false, 1, [.int .u64 (.lit 0)], [], none, some .u64, false, false, none, 8, false⟩),
 (68, ⟨false, 1, [.int .i64 (.lit 0)], [], none, some .i64, false, false, none, 8, false⟩)]
set_option maxRecDepth 100000 in
theorem tysck_VrA : (tys_VrA.all fun p => ckTI Tryz.prog p.1 p.2) = true := by kernel_rfl
theorem tysne_VrA : (tys_VrA.all fun p => !p.2.eqok) = true := by kernel_rfl
theorem tysok_VrA : ∀ t i, (t, i) ∈ tys_VrA → TIok Tryz.prog t i := by
  intro t i h
  have h1 := all_at (f := fun _ i => !i.eqok) tysne_VrA h
  exact TIok_of (all_at (f := ckTI Tryz.prog) tysck_VrA h) (fun he => by simp [he] at h1) (fun he => by simp [he] at h1)
def sM_rbits0 (key : Nat) : Sm := ⟨72, key, [.one (.int .i8), .one (.int .i8), .one (.lit .u64 0), .one (.lit .u64 0)], [.one (.int .u64), .one (.int .i64)], true⟩
def sV_rbits0 (op : Int) (l : Int) : List Dt := [.z (if okop op l = true then zdo op l 0 0 else 0), .z (if okop op l = true then 0 else 2)]
def sF_rbits0 : List Dt → List Dt
  | [.z x0, .z x1] => sV_rbits0 x0 x1
  | _ => []
theorem sX_rbits0 (op : Int) (hop : inK .i8 op = true) (l : Int) (hl : inK .i8 l = true)   : (∀ w, Calls Tryz.prog 72 #[.int .i8 op, .int .i8 l, .int .u64 0, .int .u64 0] w fun e w' => e = .returned (.tuple #[.int .u64 (if okop op l = true then zdo op l 0 0 else 0), .int .i64 (if okop op l = true then 0 else 2)]) ∧ Ext w w') ∧ valIn (.tuple #[.int .u64 (if okop op l = true then zdo op l 0 0 else 0), .int .i64 (if okop op l = true then 0 else 2)]) = true := by
  cases hk : okop op l
  · refine ⟨fun w => (rdo_bad op l 0 0 w ?_).mono ?_, by simp [valIn, partIn, cellIn]; decide⟩
    · unfold okop at hk
      rw [Bool.and_eq_false_iff, Bool.and_eq_false_iff] at hk
      rcases hk with (hk | hk) | hk
      · have := of_decide_eq_false hk
        simp; omega
      · have := of_decide_eq_false hk
        simp; omega
      · rw [hk]; simp
    · rintro e w' ⟨rfl, rfl⟩
      exact ⟨by simp, Ext.refl _⟩
  · unfold okop at hk
    simp only [Bool.and_eq_true, decide_eq_true_eq] at hk
    have hz := u64_inK (zdo_bd op l 0 0 (by omega) (by omega) (by omega) (by omega))
    refine ⟨fun w => (rdo_any op l 0 0 w (by omega) (by omega) (by omega) (by omega) hk.1.1 hk.1.2 hk.2).mono ?_, by simp [valIn, partIn, cellIn, hz]; decide⟩
    rintro e w' ⟨rfl, hx⟩
    first
    | exact ⟨by simp, hx⟩
    | (subst hx; exact ⟨by simp, Ext.refl _⟩)
theorem sK_rbits0 {sp : Spec} {key : Nat} (hF : sp.F key = sF_rbits0) : SmOk Tryz.prog sp (sM_rbits0 key) := by
  refine SmOk.pure hF rfl rfl fun xs vals w h => ?_
  obtain ⟨_, _, _, rfl, ⟨x0, rfl, rfl, gx0⟩, h⟩ := h
  obtain ⟨_, _, _, rfl, ⟨x1, rfl, rfl, gx1⟩, h⟩ := h
  obtain ⟨_, _, _, rfl, ⟨rfl, rfl⟩, h⟩ := h
  obtain ⟨_, _, _, rfl, ⟨rfl, rfl⟩, h⟩ := h
  obtain ⟨rfl, rfl⟩ := h
  have q := sX_rbits0 x0 gx0 x1 gx1
  refine ⟨_, .inr ⟨run_enter Tryz.func72 (by kernel_rfl) (by kernel_rfl) _ w, q.1 w⟩, ?_, fun ρ v0 nid j he => ?_⟩
  · have q2 := q.2
    simp [valIn, partIn, cellIn] at q2
    simp [sM_rbits0, sF_rbits0, sV_rbits0, List.flatMap_cons, List.flatMap_nil, Sh.cks, List.append_nil, List.cons_append, List.nil_append, b2i_one, resIn, q2]
  · simp only [sM_rbits0, sF_rbits0, sV_rbits0, List.flatMap_cons, List.flatMap_nil, Sh.cks, List.append_nil, List.cons_append, List.nil_append, b2i_one, eqs, dI, dB, List.getElem?_cons_zero, List.getElem?_cons_succ, Nat.zero_add, Nat.add_zero, Nat.reduceAdd, and_true] at he
    simp [sM_rbits0, sF_rbits0, sV_rbits0, List.flatMap_cons, List.flatMap_nil, Sh.cks, List.append_nil, List.cons_append, List.nil_append, b2i_one, resVof, resParts, resCells, V.den, C.den, denL, den0, den0L, E.I, E.B, he]
def sM_wmay (key : Nat) : Sm := ⟨11, key, [.agg kSc], [.one .bool], false⟩
def sV_wmay (a : Sc) : List Dt := [.z (b2i (vmay a))]
def sF_wmay : List Dt → List Dt
  | [.z x0, .z x1, .z x2, .z x3, .z x4, .z x5] => sV_wmay ⟨x0, x1, x2, x3, x4, x5⟩
  | _ => []
def sT_wmay : Tr :=
(.call 0 ([.bool]) (.vs 0 4 .nil) 6
(.br (.bvar 6)
(.call 1 ([.bool]) (.vs 4 2 .nil) 7
(.leaf (.consb (.bvar 7) .nil)))
(.leaf (.consb (.tt false) .nil))))
def sP_wmay : Spec := ⟨fun k => match k with | 0 => sF_rmay | 1 => sF_qmay | _ => fun _ => [], fun k => match k with | _ => fun _ => True⟩
set_option maxRecDepth 100000 in
theorem sR_wmay : treeIs tys_VrA [sM_rmay 0, sM_qmay 1] [] [] 200 Tryz.f11 [.agg kSc] [.one .bool] false [.int .u64, .int .u64, .int .i64, .int .i64, .int .u64, .int .u64] sT_wmay := ⟨by kernel_rfl, by kernel_rfl, by kernel_rfl⟩
set_option maxRecDepth 100000 in
set_option maxHeartbeats 8000000 in
theorem sX_wmay (a : Sc) (ha : Sc.ok a) (ρ : Env) (g : varsD ρ 0 [.int .u64, .int .u64, .int .i64, .int .i64, .int .u64, .int .u64] = [.z a.ul, .z a.uh, .z a.sl, .z a.sh, .z a.v, .z a.m]) : sT_wmay.asks sP_wmay (fun ρ e => e.D ρ = sF_wmay [.z a.ul, .z a.uh, .z a.sl, .z a.sh, .z a.v, .z a.m]) ρ fun _ _ => False := by
  simp only [varsD, varD, List.cons.injEq, Dt.z.injEq, Dt.l.injEq, b2i_eq_iff, Nat.reduceAdd, and_true] at g
  simp only [sT_wmay, sP_wmay, sF_rmay, sF_qmay, sV_rmay, sV_qmay, sF_wmay, sV_wmay, Tr.asks, upd_same, okDs, okD, eqs, E.I, E.B, E.L, E.R, E.D, E.vs, dI, dB, dL, varD, varsD, List.getElem?_cons_zero, List.getElem?_cons_succ, List.cons_append, List.nil_append, Nat.zero_add, Nat.add_zero, Nat.reduceAdd, and_true, true_and, b2i_one, -eq_self, Kn.eta, Pi.eta, Pu.eta, Rg.eta, Sc.eta, Sc.eta_r, Sc.eta_k, Sc.eta_2, g]
  intro e; (try simp only [e, Kn.eta, Pi.eta, Pu.eta, Rg.eta, Sc.eta, Sc.eta_r, Sc.eta_k, Sc.eta_2, -eq_self]); clear e
  refine ⟨fun c0 => ?_, fun c0 => ?_⟩
  intro e; (try simp only [e, Kn.eta, Pi.eta, Pu.eta, Rg.eta, Sc.eta, Sc.eta_r, Sc.eta_k, Sc.eta_2, -eq_self]); clear e
  (unfold vmay; simp_all)
  (unfold vmay; simp_all)
theorem sK_wmay {sp : Spec} {key : Nat} (hF : sp.F key = sF_wmay) (hP : sp.pre key = fun _ => True := by rfl) : SmOk Tryz.prog sp (sM_wmay key) :=
  fun_ok (s := sM_wmay key) hF hP (by kernel_rfl) tysok_VrA (smc (sK_rmay rfl) (smc (sK_qmay rfl) sm0)) Tryz.func11 sR_wmay (.inl rfl) (fun x0 gx0 x1 gx1 x2 gx2 x3 gx3 x4 gx4 x5 gx5 hp ρ g => sX_wmay ⟨x0, x1, x2, x3, x4, x5⟩ ⟨gx0, gx1, gx2, gx3, gx4, gx5⟩ ρ g)
def sM_wall (key : Nat) : Sm := ⟨13, key, [], [.agg kSc], false⟩
def sF_wall : List Dt → List Dt
  | [] => [.z vall.ul, .z vall.uh, .z vall.sl, .z vall.sh, .z vall.v, .z vall.m]
  | _ => []
def sT_wall : Tr :=
(.call 0 (kRg) .nil 0
(.call 1 (kKn) .nil 4
(.leaf (.vs 0 6 .nil))))
def sP_wall : Spec := ⟨fun k => match k with | 0 => sF_rall | 1 => sF_qall | _ => fun _ => [], fun k => match k with | _ => fun _ => True⟩
set_option maxRecDepth 100000 in
theorem sR_wall : treeIs tys_VrA [sM_rall 0, sM_qall 1] [] [] 200 Tryz.f13 [] [.agg kSc] false [] sT_wall := ⟨by kernel_rfl, by kernel_rfl, by kernel_rfl⟩
set_option maxRecDepth 100000 in
set_option maxHeartbeats 8000000 in
theorem sX_wall  (ρ : Env) (g : varsD ρ 0 [] = []) : sT_wall.asks sP_wall (fun ρ e => e.D ρ = sF_wall []) ρ fun _ _ => False := by
  simp only [sT_wall, sP_wall, kKn, kRg, sF_rall, sF_qall, sF_wall, Tr.asks, upd_same, okDs, okD, eqs, E.I, E.B, E.L, E.R, E.D, E.vs, dI, dB, dL, varD, varsD, List.getElem?_cons_zero, List.getElem?_cons_succ, List.cons_append, List.nil_append, Nat.zero_add, Nat.add_zero, Nat.reduceAdd, and_true, true_and, b2i_one, -eq_self, Kn.eta, Pi.eta, Pu.eta, Rg.eta, Sc.eta, Sc.eta_r, Sc.eta_k, Sc.eta_2]
  intro e; (try simp only [e, Kn.eta, Pi.eta, Pu.eta, Rg.eta, Sc.eta, Sc.eta_r, Sc.eta_k, Sc.eta_2, -eq_self]); clear e
  intro e; (try simp only [e, Kn.eta, Pi.eta, Pu.eta, Rg.eta, Sc.eta, Sc.eta_r, Sc.eta_k, Sc.eta_2, -eq_self]); clear e
  rfl
theorem sK_wall {sp : Spec} {key : Nat} (hF : sp.F key = sF_wall) (hP : sp.pre key = fun _ => True := by rfl) : SmOk Tryz.prog sp (sM_wall key) :=
  fun_ok (s := sM_wall key) hF hP (by kernel_rfl) tysok_VrA (smc (sK_rall rfl) (smc (sK_qall rfl) sm0)) Tryz.func13 sR_wall (.inl rfl) (fun  hp ρ g => sX_wall ρ g)
def sM_wone (key : Nat) : Sm := ⟨15, key, [.one (.int .u64)], [.agg kSc], false⟩
def sV_wone (v : Int) : List Dt := [.z ((vone v).ul), .z ((vone v).uh), .z ((vone v).sl), .z ((vone v).sh), .z ((vone v).v), .z ((vone v).m)]
def sF_wone : List Dt → List Dt
  | [.z x0] => sV_wone x0
  | _ => []
def sT_wone : Tr :=
(.call 0 (kRg) (.cons (.var 0) .nil) 1
(.call 1 (kKn) (.cons (.var 0) .nil) 5
(.leaf (.vs 1 6 .nil))))
def sP_wone : Spec := ⟨fun k => match k with | 0 => sF_rone | 1 => sF_qone | _ => fun _ => [], fun k => match k with | _ => fun _ => True⟩
set_option maxRecDepth 100000 in
theorem sR_wone : treeIs tys_VrA [sM_rone 0, sM_qone 1] [] [] 200 Tryz.f15 [.one (.int .u64)] [.agg kSc] false [.int .u64] sT_wone := ⟨by kernel_rfl, by kernel_rfl, by kernel_rfl⟩
set_option maxRecDepth 100000 in
set_option maxHeartbeats 8000000 in
theorem sX_wone (v : Int) (hv : inK .u64 v = true) (ρ : Env) (g : varsD ρ 0 [.int .u64] = [.z v]) : sT_wone.asks sP_wone (fun ρ e => e.D ρ = sF_wone [.z v]) ρ fun _ _ => False := by
  simp only [varsD, varD, List.cons.injEq, Dt.z.injEq, Dt.l.injEq, b2i_eq_iff, Nat.reduceAdd, and_true] at g
  simp only [sT_wone, sP_wone, kKn, kRg, sF_rone, sF_qone, sV_rone, sV_qone, sF_wone, sV_wone, Tr.asks, upd_same, okDs, okD, eqs, E.I, E.B, E.L, E.R, E.D, E.vs, dI, dB, dL, varD, varsD, List.getElem?_cons_zero, List.getElem?_cons_succ, List.cons_append, List.nil_append, Nat.zero_add, Nat.add_zero, Nat.reduceAdd, and_true, true_and, b2i_one, -eq_self, Kn.eta, Pi.eta, Pu.eta, Rg.eta, Sc.eta, Sc.eta_r, Sc.eta_k, Sc.eta_2, g]
  intro e; (try simp only [e, Kn.eta, Pi.eta, Pu.eta, Rg.eta, Sc.eta, Sc.eta_r, Sc.eta_k, Sc.eta_2, -eq_self]); clear e
  intro e; (try simp only [e, Kn.eta, Pi.eta, Pu.eta, Rg.eta, Sc.eta, Sc.eta_r, Sc.eta_k, Sc.eta_2, -eq_self]); clear e
  rfl
theorem sK_wone {sp : Spec} {key : Nat} (hF : sp.F key = sF_wone) (hP : sp.pre key = fun _ => True := by rfl) : SmOk Tryz.prog sp (sM_wone key) :=
  fun_ok (s := sM_wone key) hF hP (by kernel_rfl) tysok_VrA (smc (sK_rone rfl) (smc (sK_qone rfl) sm0)) Tryz.func15 sR_wone (.inl rfl) (fun x0 gx0 hp ρ g => sX_wone x0 gx0 ρ g)
def sM_whas (key : Nat) : Sm := ⟨19, key, [.agg kSc, .one (.int .u64)], [.one .bool], false⟩
def sV_whas (a : Sc) (v : Int) : List Dt := [.z (b2i (vhas a v))]
def sF_whas : List Dt → List Dt
  | [.z x0, .z x1, .z x2, .z x3, .z x4, .z x5, .z x6] => sV_whas ⟨x0, x1, x2, x3, x4, x5⟩ x6
  | _ => []
def sT_whas : Tr :=
(.call 0 ([.bool]) (.vs 0 6 .nil) 7
(.br (.bvar 7)
(.call 1 ([.bool]) (.vs 0 4 (.cons (.var 6) .nil)) 8
(.br (.bvar 8)
(.call 2 ([.bool]) (.vs 4 3 .nil) 9
(.leaf (.consb (.bvar 9) .nil)))
(.leaf (.consb (.tt false) .nil))))
(.leaf (.consb (.tt false) .nil))))
def sP_whas : Spec := ⟨fun k => match k with | 0 => sF_wmay | 1 => sF_rhas | 2 => sF_qhas | _ => fun _ => [], fun k => match k with | _ => fun _ => True⟩
set_option maxRecDepth 100000 in
theorem sR_whas : treeIs tys_VrA [sM_wmay 0, sM_rhas 1, sM_qhas 2] [] [] 200 Tryz.f19 [.agg kSc, .one (.int .u64)] [.one .bool] false [.int .u64, .int .u64, .int .i64, .int .i64, .int .u64, .int .u64, .int .u64] sT_whas := ⟨by kernel_rfl, by kernel_rfl, by kernel_rfl⟩
set_option maxRecDepth 100000 in
set_option maxHeartbeats 8000000 in
theorem sX_whas (a : Sc) (ha : Sc.ok a) (v : Int) (hv : inK .u64 v = true) (ρ : Env) (g : varsD ρ 0 [.int .u64, .int .u64, .int .i64, .int .i64, .int .u64, .int .u64, .int .u64] = [.z a.ul, .z a.uh, .z a.sl, .z a.sh, .z a.v, .z a.m, .z v]) : sT_whas.asks sP_whas (fun ρ e => e.D ρ = sF_whas [.z a.ul, .z a.uh, .z a.sl, .z a.sh, .z a.v, .z a.m, .z v]) ρ fun _ _ => False := by
  simp only [varsD, varD, List.cons.injEq, Dt.z.injEq, Dt.l.injEq, b2i_eq_iff, Nat.reduceAdd, and_true] at g
  simp only [sT_whas, sP_whas, sF_wmay, sF_rhas, sF_qhas, sV_wmay, sV_rhas, sV_qhas, sF_whas, sV_whas, Tr.asks, upd_same, okDs, okD, eqs, E.I, E.B, E.L, E.R, E.D, E.vs, dI, dB, dL, varD, varsD, List.getElem?_cons_zero, List.getElem?_cons_succ, List.cons_append, List.nil_append, Nat.zero_add, Nat.add_zero, Nat.reduceAdd, and_true, true_and, b2i_one, -eq_self, Kn.eta, Pi.eta, Pu.eta, Rg.eta, Sc.eta, Sc.eta_r, Sc.eta_k, Sc.eta_2, g]
  intro e; (try simp only [e, Kn.eta, Pi.eta, Pu.eta, Rg.eta, Sc.eta, Sc.eta_r, Sc.eta_k, Sc.eta_2, -eq_self]); clear e
  refine ⟨fun c0 => ?_, fun c0 => ?_⟩
  intro e; (try simp only [e, Kn.eta, Pi.eta, Pu.eta, Rg.eta, Sc.eta, Sc.eta_r, Sc.eta_k, Sc.eta_2, -eq_self]); clear e
  refine ⟨fun c1 => ?_, fun c1 => ?_⟩
  intro e; (try simp only [e, Kn.eta, Pi.eta, Pu.eta, Rg.eta, Sc.eta, Sc.eta_r, Sc.eta_k, Sc.eta_2, -eq_self]); clear e
  (unfold vhas; simp_all)
  (unfold vhas; simp_all)
  (unfold vhas; simp_all)
theorem sK_whas {sp : Spec} {key : Nat} (hF : sp.F key = sF_whas) (hP : sp.pre key = fun _ => True := by rfl) : SmOk Tryz.prog sp (sM_whas key) :=
  fun_ok (s := sM_whas key) hF hP (by kernel_rfl) tysok_VrA (smc (sK_wmay rfl) (smc (sK_rhas rfl) (smc (sK_qhas rfl) sm0))) Tryz.func19 sR_whas (.inl rfl) (fun x0 gx0 x1 gx1 x2 gx2 x3 gx3 x4 gx4 x5 gx5 x6 gx6 hp ρ g => sX_whas ⟨x0, x1, x2, x3, x4, x5⟩ ⟨gx0, gx1, gx2, gx3, gx4, gx5⟩ x6 gx6 ρ g)
def sM_wsingle (key : Nat) : Sm := ⟨9, key, [.agg kSc], [.one (.int .u64), .one .bool], true⟩
def sV_wsingle (a : Sc) : List Dt := [.z (vsingle a), .z (b2i (vones a))]
def sF_wsingle : List Dt → List Dt
  | [.z x0, .z x1, .z x2, .z x3, .z x4, .z x5] => sV_wsingle ⟨x0, x1, x2, x3, x4, x5⟩
  | _ => []
def sT_wsingle : Tr :=
(.call 0 ([.bool]) (.vs 0 6 .nil) 6
(.br (.bvar 6)
(.call 1 ([.int .u64] ++ [.bool]) (.vs 0 4 .nil) 7
(.leaf (.cons (.var 7) (.consb (.bvar 8) .nil))))
(.leaf (.cons (.lit 0) (.consb (.tt false) .nil)))))
def sP_wsingle : Spec := ⟨fun k => match k with | 0 => sF_wmay | 1 => sF_rsingle | _ => fun _ => [], fun k => match k with | _ => fun _ => True⟩
set_option maxRecDepth 100000 in
theorem sR_wsingle : treeIs tys_VrA [sM_wmay 0, sM_rsingle 1] [] [] 200 Tryz.f9 [.agg kSc] [.one (.int .u64), .one .bool] true [.int .u64, .int .u64, .int .i64, .int .i64, .int .u64, .int .u64] sT_wsingle := ⟨by kernel_rfl, by kernel_rfl, by kernel_rfl⟩
set_option maxRecDepth 100000 in
set_option maxHeartbeats 8000000 in
theorem sX_wsingle (a : Sc) (ha : Sc.ok a) (ρ : Env) (g : varsD ρ 0 [.int .u64, .int .u64, .int .i64, .int .i64, .int .u64, .int .u64] = [.z a.ul, .z a.uh, .z a.sl, .z a.sh, .z a.v, .z a.m]) : sT_wsingle.asks sP_wsingle (fun ρ e => e.D ρ = sF_wsingle [.z a.ul, .z a.uh, .z a.sl, .z a.sh, .z a.v, .z a.m]) ρ fun _ _ => False := by
  simp only [varsD, varD, List.cons.injEq, Dt.z.injEq, Dt.l.injEq, b2i_eq_iff, Nat.reduceAdd, and_true] at g
  simp only [sT_wsingle, sP_wsingle, sF_wmay, sF_rsingle, sV_wmay, sV_rsingle, sF_wsingle, sV_wsingle, Tr.asks, upd_same, okDs, okD, eqs, E.I, E.B, E.L, E.R, E.D, E.vs, dI, dB, dL, varD, varsD, List.getElem?_cons_zero, List.getElem?_cons_succ, List.cons_append, List.nil_append, Nat.zero_add, Nat.add_zero, Nat.reduceAdd, and_true, true_and, b2i_one, -eq_self, Kn.eta, Pi.eta, Pu.eta, Rg.eta, Sc.eta, Sc.eta_r, Sc.eta_k, Sc.eta_2, g]
  intro e; (try simp only [e, Kn.eta, Pi.eta, Pu.eta, Rg.eta, Sc.eta, Sc.eta_r, Sc.eta_k, Sc.eta_2, -eq_self]); clear e
  refine ⟨fun c0 => ?_, fun c0 => ?_⟩
  intro e; (try simp only [e, Kn.eta, Pi.eta, Pu.eta, Rg.eta, Sc.eta, Sc.eta_r, Sc.eta_k, Sc.eta_2, -eq_self]); clear e
  (unfold vsingle vones; simp_all)
  (unfold vsingle vones; simp_all)
theorem sK_wsingle {sp : Spec} {key : Nat} (hF : sp.F key = sF_wsingle) (hP : sp.pre key = fun _ => True := by rfl) : SmOk Tryz.prog sp (sM_wsingle key) :=
  fun_ok (s := sM_wsingle key) hF hP (by kernel_rfl) tysok_VrA (smc (sK_wmay rfl) (smc (sK_rsingle rfl) sm0)) Tryz.func9 sR_wsingle (.inl rfl) (fun x0 gx0 x1 gx1 x2 gx2 x3 gx3 x4 gx4 x5 gx5 hp ρ g => sX_wsingle ⟨x0, x1, x2, x3, x4, x5⟩ ⟨gx0, gx1, gx2, gx3, gx4, gx5⟩ ρ g)
def sM_wonce (key : Nat) : Sm := ⟨33, key, [.agg kSc], [.agg kSc, .one .bool], true⟩
def sV_wonce (a : Sc) : List Dt := [.z ((if (vs1 a && vs2 a) = true then vst a else vall).ul), .z ((if (vs1 a && vs2 a) = true then vst a else vall).uh), .z ((if (vs1 a && vs2 a) = true then vst a else vall).sl), .z ((if (vs1 a && vs2 a) = true then vst a else vall).sh), .z ((if (vs1 a && vs2 a) = true then vst a else vall).v), .z ((if (vs1 a && vs2 a) = true then vst a else vall).m), .z (b2i ((vs1 a && vs2 a)))]
def sF_wonce : List Dt → List Dt
  | [.z x0, .z x1, .z x2, .z x3, .z x4, .z x5] => sV_wonce ⟨x0, x1, x2, x3, x4, x5⟩
  | _ => []
def sT_wonce : Tr :=
(.call 0 (kRg) .nil 6
(.call 2 (kRg ++ [.bool]) (.vs 0 5 (.cons (.bin .or .u64 (.var 4) (.var 5)) (.vs 8 2 .nil))) 10
(.br (.bvar 14)
(.call 4 (kKn) (.vs 10 2 .nil) 15
(.call 3 (kKn ++ [.bool]) (.vs 4 2 (.vs 15 2 .nil)) 17
(.br (.bvar 19)
(.leaf (.vs 10 4 (.vs 17 2 (.consb (.tt true) .nil))))
(.call 1 (kSc) .nil 20
(.leaf (.vs 20 6 (.consb (.tt false) .nil)))))))
(.call 1 (kSc) .nil 15
(.leaf (.vs 15 6 (.consb (.tt false) .nil)))))))
def sP_wonce : Spec := ⟨fun k => match k with | 0 => sF_rall | 1 => sF_wall | 2 => sF_rmeet | 3 => sF_qmeet | 4 => sF_qcom | _ => fun _ => [], fun k => match k with | _ => fun _ => True⟩
set_option maxRecDepth 100000 in
theorem sR_wonce : treeIs tys_VrA [sM_rall 0, sM_wall 1, sM_rmeet 2, sM_qmeet 3, sM_qcom 4] [] [] 200 Tryz.f33 [.agg kSc] [.agg kSc, .one .bool] true [.int .u64, .int .u64, .int .i64, .int .i64, .int .u64, .int .u64] sT_wonce := ⟨by kernel_rfl, by kernel_rfl, by kernel_rfl⟩
set_option maxRecDepth 100000 in
set_option maxHeartbeats 8000000 in
theorem sX_wonce (a : Sc) (ha : Sc.ok a) (ρ : Env) (g : varsD ρ 0 [.int .u64, .int .u64, .int .i64, .int .i64, .int .u64, .int .u64] = [.z a.ul, .z a.uh, .z a.sl, .z a.sh, .z a.v, .z a.m]) : sT_wonce.asks sP_wonce (fun ρ e => e.D ρ = sF_wonce [.z a.ul, .z a.uh, .z a.sl, .z a.sh, .z a.v, .z a.m]) ρ fun _ _ => False := by
  simp only [varsD, varD, List.cons.injEq, Dt.z.injEq, Dt.l.injEq, b2i_eq_iff, Nat.reduceAdd, and_true] at g
  simp only [sT_wonce, sP_wonce, kKn, kRg, kSc, sF_rall, sF_wall, sF_rmeet, sF_qmeet, sF_qcom, sV_rmeet, sV_qmeet, sV_qcom, sF_wonce, sV_wonce, Tr.asks, upd_same, okDs, okD, eqs, E.I, E.B, E.L, E.R, E.D, E.vs, dI, dB, dL, varD, varsD, List.getElem?_cons_zero, List.getElem?_cons_succ, List.cons_append, List.nil_append, Nat.zero_add, Nat.add_zero, Nat.reduceAdd, and_true, true_and, b2i_one, -eq_self, Kn.eta, Pi.eta, Pu.eta, Rg.eta, Sc.eta, Sc.eta_r, Sc.eta_k, Sc.eta_2, g]
  intro e; (try simp only [e, Kn.eta, Pi.eta, Pu.eta, Rg.eta, Sc.eta, Sc.eta_r, Sc.eta_k, Sc.eta_2, -eq_self]); clear e
  intro e; (try simp only [e, Kn.eta, Pi.eta, Pu.eta, Rg.eta, Sc.eta, Sc.eta_r, Sc.eta_k, Sc.eta_2, -eq_self]); clear e
  refine ⟨fun c0 => ?_, fun c0 => ?_⟩
  intro e; (try simp only [e, Kn.eta, Pi.eta, Pu.eta, Rg.eta, Sc.eta, Sc.eta_r, Sc.eta_k, Sc.eta_2, -eq_self]); clear e
  intro e; (try simp only [e, Kn.eta, Pi.eta, Pu.eta, Rg.eta, Sc.eta, Sc.eta_r, Sc.eta_k, Sc.eta_2, -eq_self]); clear e
  refine ⟨fun c1 => ?_, fun c1 => ?_⟩
  (have q := wo_3 (a := a) (Sc.wf_of ha) c0 c1; first | (rw [q.1, q.2]; try rfl) | (simp only [q.1, q.2]; rfl))
  intro e; (try simp only [e, Kn.eta, Pi.eta, Pu.eta, Rg.eta, Sc.eta, Sc.eta_r, Sc.eta_k, Sc.eta_2, -eq_self]); clear e
  (have q := wo_2 (a := a) (Sc.wf_of ha) c0 c1; first | (rw [q.1, q.2]; try rfl) | (simp only [q.1, q.2]; rfl))
  intro e; (try simp only [e, Kn.eta, Pi.eta, Pu.eta, Rg.eta, Sc.eta, Sc.eta_r, Sc.eta_k, Sc.eta_2, -eq_self]); clear e
  (have q := wo_1 (a := a) (Sc.wf_of ha) c0; first | (rw [q.1, q.2]; try rfl) | (simp only [q.1, q.2]; rfl))
theorem sK_wonce {sp : Spec} {key : Nat} (hF : sp.F key = sF_wonce) (hP : sp.pre key = fun _ => True := by rfl) : SmOk Tryz.prog sp (sM_wonce key) :=
  fun_ok (s := sM_wonce key) hF hP (by kernel_rfl) tysok_VrA (smc (sK_rall rfl) (smc (sK_wall rfl) (smc (sK_rmeet rfl) (smc (sK_qmeet rfl) (smc (sK_qcom rfl) sm0))))) Tryz.func33 sR_wonce (.inl rfl) (fun x0 gx0 x1 gx1 x2 gx2 x3 gx3 x4 gx4 x5 gx5 hp ρ g => sX_wonce ⟨x0, x1, x2, x3, x4, x5⟩ ⟨gx0, gx1, gx2, gx3, gx4, gx5⟩ ρ g)
def sM_wnar (key : Nat) : Sm := ⟨5, key, [.agg kSc], [.agg kSc, .one .bool], true⟩
def sV_wnar (a : Sc) : List Dt := [.z ((vnar a).ul), .z ((vnar a).uh), .z ((vnar a).sl), .z ((vnar a).sh), .z ((vnar a).v), .z ((vnar a).m), .z (b2i (vnok a))]
def sF_wnar : List Dt → List Dt
  | [.z x0, .z x1, .z x2, .z x3, .z x4, .z x5] => sV_wnar ⟨x0, x1, x2, x3, x4, x5⟩
  | _ => []
def sT_wnar : Tr :=
(.call 0 ([.bool]) (.vs 0 6 .nil) 6
(.br (.bvar 6)
(.call 2 (kSc ++ [.bool]) (.vs 0 6 .nil) 7
(.br (.bvar 13)
(.call 2 (kSc ++ [.bool]) (.vs 7 6 .nil) 14
(.leaf (.vs 14 6 (.consb (.bvar 20) .nil))))
(.call 1 (kSc) .nil 14
(.leaf (.vs 14 6 (.consb (.tt false) .nil))))))
(.call 1 (kSc) .nil 7
(.leaf (.vs 7 6 (.consb (.tt false) .nil))))))
def sP_wnar : Spec := ⟨fun k => match k with | 0 => sF_wmay | 1 => sF_wall | 2 => sF_wonce | _ => fun _ => [], fun k => match k with | _ => fun _ => True⟩
set_option maxRecDepth 100000 in
theorem sR_wnar : treeIs tys_VrA [sM_wmay 0, sM_wall 1, sM_wonce 2] [] [] 200 Tryz.f5 [.agg kSc] [.agg kSc, .one .bool] true [.int .u64, .int .u64, .int .i64, .int .i64, .int .u64, .int .u64] sT_wnar := ⟨by kernel_rfl, by kernel_rfl, by kernel_rfl⟩
set_option maxRecDepth 100000 in
set_option maxHeartbeats 8000000 in
theorem sX_wnar (a : Sc) (ha : Sc.ok a) (ρ : Env) (g : varsD ρ 0 [.int .u64, .int .u64, .int .i64, .int .i64, .int .u64, .int .u64] = [.z a.ul, .z a.uh, .z a.sl, .z a.sh, .z a.v, .z a.m]) : sT_wnar.asks sP_wnar (fun ρ e => e.D ρ = sF_wnar [.z a.ul, .z a.uh, .z a.sl, .z a.sh, .z a.v, .z a.m]) ρ fun _ _ => False := by
  simp only [varsD, varD, List.cons.injEq, Dt.z.injEq, Dt.l.injEq, b2i_eq_iff, Nat.reduceAdd, and_true] at g
  simp only [sT_wnar, sP_wnar, kSc, sF_wmay, sF_wall, sF_wonce, sV_wmay, sV_wonce, sF_wnar, sV_wnar, Tr.asks, upd_same, okDs, okD, eqs, E.I, E.B, E.L, E.R, E.D, E.vs, dI, dB, dL, varD, varsD, List.getElem?_cons_zero, List.getElem?_cons_succ, List.cons_append, List.nil_append, Nat.zero_add, Nat.add_zero, Nat.reduceAdd, and_true, true_and, b2i_one, -eq_self, Kn.eta, Pi.eta, Pu.eta, Rg.eta, Sc.eta, Sc.eta_r, Sc.eta_k, Sc.eta_2, g]
  intro e; (try simp only [e, Kn.eta, Pi.eta, Pu.eta, Rg.eta, Sc.eta, Sc.eta_r, Sc.eta_k, Sc.eta_2, -eq_self]); clear e
  refine ⟨fun c0 => ?_, fun c0 => ?_⟩
  intro e; (try simp only [e, Kn.eta, Pi.eta, Pu.eta, Rg.eta, Sc.eta, Sc.eta_r, Sc.eta_k, Sc.eta_2, -eq_self]); clear e
  refine ⟨fun c1 => ?_, fun c1 => ?_⟩
  intro e; (try simp only [e, Kn.eta, Pi.eta, Pu.eta, Rg.eta, Sc.eta, Sc.eta_r, Sc.eta_k, Sc.eta_2, -eq_self]); clear e
  (have q := wn_3 (a := a) c0 c1; first | (rw [q.1, q.2]; try rfl) | (simp only [q.1, q.2]; rfl))
  intro e; (try simp only [e, Kn.eta, Pi.eta, Pu.eta, Rg.eta, Sc.eta, Sc.eta_r, Sc.eta_k, Sc.eta_2, -eq_self]); clear e
  (have q := wn_2 (a := a) c0 c1; first | (rw [q.1, q.2]; try rfl) | (simp only [q.1, q.2]; rfl))
  intro e; (try simp only [e, Kn.eta, Pi.eta, Pu.eta, Rg.eta, Sc.eta, Sc.eta_r, Sc.eta_k, Sc.eta_2, -eq_self]); clear e
  (have q := wn_1 (a := a) c0; first | (rw [q.1, q.2]; try rfl) | (simp only [q.1, q.2]; rfl))
theorem sK_wnar {sp : Spec} {key : Nat} (hF : sp.F key = sF_wnar) (hP : sp.pre key = fun _ => True := by rfl) : SmOk Tryz.prog sp (sM_wnar key) :=
  fun_ok (s := sM_wnar key) hF hP (by kernel_rfl) tysok_VrA (smc (sK_wmay rfl) (smc (sK_wall rfl) (smc (sK_wonce rfl) sm0))) Tryz.func5 sR_wnar (.inl rfl) (fun x0 gx0 x1 gx1 x2 gx2 x3 gx3 x4 gx4 x5 gx5 hp ρ g => sX_wnar ⟨x0, x1, x2, x3, x4, x5⟩ ⟨gx0, gx1, gx2, gx3, gx4, gx5⟩ ρ g)
def sM_wnard (key : Nat) : Sm := ⟨59, key, [.agg kSc], [.agg kSc], false⟩
def sV_wnard (a : Sc) : List Dt := [.z ((vnar a).ul), .z ((vnar a).uh), .z ((vnar a).sl), .z ((vnar a).sh), .z ((vnar a).v), .z ((vnar a).m)]
def sF_wnard : List Dt → List Dt
  | [.z x0, .z x1, .z x2, .z x3, .z x4, .z x5] => sV_wnard ⟨x0, x1, x2, x3, x4, x5⟩
  | _ => []
def sT_wnard : Tr :=
(.call 0 (kSc ++ [.bool]) (.vs 0 6 .nil) 6
(.leaf (.vs 6 6 .nil)))
def sP_wnard : Spec := ⟨fun k => match k with | 0 => sF_wnar | _ => fun _ => [], fun k => match k with | _ => fun _ => True⟩
set_option maxRecDepth 100000 in
theorem sR_wnard : treeIs tys_VrA [sM_wnar 0] [] [] 200 Tryz.f59 [.agg kSc] [.agg kSc] false [.int .u64, .int .u64, .int .i64, .int .i64, .int .u64, .int .u64] sT_wnard := ⟨by kernel_rfl, by kernel_rfl, by kernel_rfl⟩
set_option maxRecDepth 100000 in
set_option maxHeartbeats 8000000 in
theorem sX_wnard (a : Sc) (ha : Sc.ok a) (ρ : Env) (g : varsD ρ 0 [.int .u64, .int .u64, .int .i64, .int .i64, .int .u64, .int .u64] = [.z a.ul, .z a.uh, .z a.sl, .z a.sh, .z a.v, .z a.m]) : sT_wnard.asks sP_wnard (fun ρ e => e.D ρ = sF_wnard [.z a.ul, .z a.uh, .z a.sl, .z a.sh, .z a.v, .z a.m]) ρ fun _ _ => False := by
  simp only [varsD, varD, List.cons.injEq, Dt.z.injEq, Dt.l.injEq, b2i_eq_iff, Nat.reduceAdd, and_true] at g
  simp only [sT_wnard, sP_wnard, kSc, sF_wnar, sV_wnar, sF_wnard, sV_wnard, Tr.asks, upd_same, okDs, okD, eqs, E.I, E.B, E.L, E.R, E.D, E.vs, dI, dB, dL, varD, varsD, List.getElem?_cons_zero, List.getElem?_cons_succ, List.cons_append, List.nil_append, Nat.zero_add, Nat.add_zero, Nat.reduceAdd, and_true, true_and, b2i_one, -eq_self, Kn.eta, Pi.eta, Pu.eta, Rg.eta, Sc.eta, Sc.eta_r, Sc.eta_k, Sc.eta_2, g]
  intro e; (try simp only [e, Kn.eta, Pi.eta, Pu.eta, Rg.eta, Sc.eta, Sc.eta_r, Sc.eta_k, Sc.eta_2, -eq_self]); clear e
  rfl
theorem sK_wnard {sp : Spec} {key : Nat} (hF : sp.F key = sF_wnard) (hP : sp.pre key = fun _ => True := by rfl) : SmOk Tryz.prog sp (sM_wnard key) :=
  fun_ok (s := sM_wnard key) hF hP (by kernel_rfl) tysok_VrA (smc (sK_wnar rfl) sm0) Tryz.func59 sR_wnard (.inl rfl) (fun x0 gx0 x1 gx1 x2 gx2 x3 gx3 x4 gx4 x5 gx5 hp ρ g => sX_wnard ⟨x0, x1, x2, x3, x4, x5⟩ ⟨gx0, gx1, gx2, gx3, gx4, gx5⟩ ρ g)
def sM_wjoin (key : Nat) : Sm := ⟨21, key, [.agg kSc, .agg kSc], [.agg kSc], false⟩
def sV_wjoin (a : Sc) (b : Sc) : List Dt := [.z ((vjoin a b).ul), .z ((vjoin a b).uh), .z ((vjoin a b).sl), .z ((vjoin a b).sh), .z ((vjoin a b).v), .z ((vjoin a b).m)]
def sF_wjoin : List Dt → List Dt
  | [.z x0, .z x1, .z x2, .z x3, .z x4, .z x5, .z x6, .z x7, .z x8, .z x9, .z x10, .z x11] => sV_wjoin ⟨x0, x1, x2, x3, x4, x5⟩ ⟨x6, x7, x8, x9, x10, x11⟩
  | _ => []
def sT_wjoin : Tr :=
(.call 0 ([.bool]) (.vs 0 6 .nil) 12
(.br (.bvar 12)
(.call 0 ([.bool]) (.vs 6 6 .nil) 13
(.br (.bvar 13)
(.call 3 (kRg) (.vs 0 4 (.vs 6 4 .nil)) 14
(.call 4 (kKn) (.vs 4 2 (.vs 10 2 .nil)) 18
(.call 2 (kSc) (.vs 14 6 .nil) 20
(.leaf (.vs 20 6 .nil)))))
(.call 1 (kSc) .nil 14
(.leaf (.vs 14 6 .nil)))))
(.call 1 (kSc) .nil 13
(.leaf (.vs 13 6 .nil)))))
def sP_wjoin : Spec := ⟨fun k => match k with | 0 => sF_wmay | 1 => sF_wall | 2 => sF_wnard | 3 => sF_rjoin | 4 => sF_qjoin | _ => fun _ => [], fun k => match k with | _ => fun _ => True⟩
set_option maxRecDepth 100000 in
theorem sR_wjoin : treeIs tys_VrA [sM_wmay 0, sM_wall 1, sM_wnard 2, sM_rjoin 3, sM_qjoin 4] [] [] 200 Tryz.f21 [.agg kSc, .agg kSc] [.agg kSc] false [.int .u64, .int .u64, .int .i64, .int .i64, .int .u64, .int .u64, .int .u64, .int .u64, .int .i64, .int .i64, .int .u64, .int .u64] sT_wjoin := ⟨by kernel_rfl, by kernel_rfl, by kernel_rfl⟩
set_option maxRecDepth 100000 in
set_option maxHeartbeats 8000000 in
theorem sX_wjoin (a : Sc) (ha : Sc.ok a) (b : Sc) (hb : Sc.ok b) (ρ : Env) (g : varsD ρ 0 [.int .u64, .int .u64, .int .i64, .int .i64, .int .u64, .int .u64, .int .u64, .int .u64, .int .i64, .int .i64, .int .u64, .int .u64] = [.z a.ul, .z a.uh, .z a.sl, .z a.sh, .z a.v, .z a.m, .z b.ul, .z b.uh, .z b.sl, .z b.sh, .z b.v, .z b.m]) : sT_wjoin.asks sP_wjoin (fun ρ e => e.D ρ = sF_wjoin [.z a.ul, .z a.uh, .z a.sl, .z a.sh, .z a.v, .z a.m, .z b.ul, .z b.uh, .z b.sl, .z b.sh, .z b.v, .z b.m]) ρ fun _ _ => False := by
  simp only [varsD, varD, List.cons.injEq, Dt.z.injEq, Dt.l.injEq, b2i_eq_iff, Nat.reduceAdd, and_true] at g
  simp only [sT_wjoin, sP_wjoin, kKn, kRg, kSc, sF_wmay, sF_wall, sF_wnard, sF_rjoin, sF_qjoin, sV_wmay, sV_wnard, sV_rjoin, sV_qjoin, sF_wjoin, sV_wjoin, Tr.asks, upd_same, okDs, okD, eqs, E.I, E.B, E.L, E.R, E.D, E.vs, dI, dB, dL, varD, varsD, List.getElem?_cons_zero, List.getElem?_cons_succ, List.cons_append, List.nil_append, Nat.zero_add, Nat.add_zero, Nat.reduceAdd, and_true, true_and, b2i_one, -eq_self, Kn.eta, Pi.eta, Pu.eta, Rg.eta, Sc.eta, Sc.eta_r, Sc.eta_k, Sc.eta_2, g]
  intro e; (try simp only [e, Kn.eta, Pi.eta, Pu.eta, Rg.eta, Sc.eta, Sc.eta_r, Sc.eta_k, Sc.eta_2, -eq_self]); clear e
  refine ⟨fun c0 => ?_, fun c0 => ?_⟩
  intro e; (try simp only [e, Kn.eta, Pi.eta, Pu.eta, Rg.eta, Sc.eta, Sc.eta_r, Sc.eta_k, Sc.eta_2, -eq_self]); clear e
  refine ⟨fun c1 => ?_, fun c1 => ?_⟩
  intro e; (try simp only [e, Kn.eta, Pi.eta, Pu.eta, Rg.eta, Sc.eta, Sc.eta_r, Sc.eta_k, Sc.eta_2, -eq_self]); clear e
  intro e; (try simp only [e, Kn.eta, Pi.eta, Pu.eta, Rg.eta, Sc.eta, Sc.eta_r, Sc.eta_k, Sc.eta_2, -eq_self]); clear e
  intro e; (try simp only [e, Kn.eta, Pi.eta, Pu.eta, Rg.eta, Sc.eta, Sc.eta_r, Sc.eta_k, Sc.eta_2, -eq_self]); clear e
  (rw [show vjoin a b = vnar (sc (bjoin a.r b.r) (kjoin a.k b.k)) from if_pos ⟨c0, c1⟩]; try rfl)
  intro e; (try simp only [e, Kn.eta, Pi.eta, Pu.eta, Rg.eta, Sc.eta, Sc.eta_r, Sc.eta_k, Sc.eta_2, -eq_self]); clear e
  (rw [show vjoin a b = vall from if_neg (fun q => by simp_all)]; try rfl)
  intro e; (try simp only [e, Kn.eta, Pi.eta, Pu.eta, Rg.eta, Sc.eta, Sc.eta_r, Sc.eta_k, Sc.eta_2, -eq_self]); clear e
  (rw [show vjoin a b = vall from if_neg (fun q => by simp_all)]; try rfl)
theorem sK_wjoin {sp : Spec} {key : Nat} (hF : sp.F key = sF_wjoin) (hP : sp.pre key = fun _ => True := by rfl) : SmOk Tryz.prog sp (sM_wjoin key) :=
  fun_ok (s := sM_wjoin key) hF hP (by kernel_rfl) tysok_VrA (smc (sK_wmay rfl) (smc (sK_wall rfl) (smc (sK_wnard rfl) (smc (sK_rjoin rfl) (smc (sK_qjoin rfl) sm0))))) Tryz.func21 sR_wjoin (.inl rfl) (fun x0 gx0 x1 gx1 x2 gx2 x3 gx3 x4 gx4 x5 gx5 x6 gx6 x7 gx7 x8 gx8 x9 gx9 x10 gx10 x11 gx11 hp ρ g => sX_wjoin ⟨x0, x1, x2, x3, x4, x5⟩ ⟨gx0, gx1, gx2, gx3, gx4, gx5⟩ ⟨x6, x7, x8, x9, x10, x11⟩ ⟨gx6, gx7, gx8, gx9, gx10, gx11⟩ ρ g)
def sM_win (key : Nat) : Sm := ⟨23, key, [.agg kSc, .agg kSc], [.one .bool], false⟩
def sV_win (a : Sc) (b : Sc) : List Dt := [.z (b2i ((bin a.r b.r && kin a.k b.k)))]
def sF_win : List Dt → List Dt
  | [.z x0, .z x1, .z x2, .z x3, .z x4, .z x5, .z x6, .z x7, .z x8, .z x9, .z x10, .z x11] => sV_win ⟨x0, x1, x2, x3, x4, x5⟩ ⟨x6, x7, x8, x9, x10, x11⟩
  | _ => []
def sT_win : Tr :=
(.call 0 ([.bool]) (.vs 0 4 (.vs 6 4 .nil)) 12
(.br (.bvar 12)
(.call 1 ([.bool]) (.vs 4 2 (.vs 10 2 .nil)) 13
(.leaf (.consb (.bvar 13) .nil)))
(.leaf (.consb (.tt false) .nil))))
def sP_win : Spec := ⟨fun k => match k with | 0 => sF_rin | 1 => sF_qin | _ => fun _ => [], fun k => match k with | _ => fun _ => True⟩
set_option maxRecDepth 100000 in
theorem sR_win : treeIs tys_VrA [sM_rin 0, sM_qin 1] [] [] 200 Tryz.f23 [.agg kSc, .agg kSc] [.one .bool] false [.int .u64, .int .u64, .int .i64, .int .i64, .int .u64, .int .u64, .int .u64, .int .u64, .int .i64, .int .i64, .int .u64, .int .u64] sT_win := ⟨by kernel_rfl, by kernel_rfl, by kernel_rfl⟩
set_option maxRecDepth 100000 in
set_option maxHeartbeats 8000000 in
theorem sX_win (a : Sc) (ha : Sc.ok a) (b : Sc) (hb : Sc.ok b) (ρ : Env) (g : varsD ρ 0 [.int .u64, .int .u64, .int .i64, .int .i64, .int .u64, .int .u64, .int .u64, .int .u64, .int .i64, .int .i64, .int .u64, .int .u64] = [.z a.ul, .z a.uh, .z a.sl, .z a.sh, .z a.v, .z a.m, .z b.ul, .z b.uh, .z b.sl, .z b.sh, .z b.v, .z b.m]) : sT_win.asks sP_win (fun ρ e => e.D ρ = sF_win [.z a.ul, .z a.uh, .z a.sl, .z a.sh, .z a.v, .z a.m, .z b.ul, .z b.uh, .z b.sl, .z b.sh, .z b.v, .z b.m]) ρ fun _ _ => False := by
  simp only [varsD, varD, List.cons.injEq, Dt.z.injEq, Dt.l.injEq, b2i_eq_iff, Nat.reduceAdd, and_true] at g
  simp only [sT_win, sP_win, sF_rin, sF_qin, sV_rin, sV_qin, sF_win, sV_win, Tr.asks, upd_same, okDs, okD, eqs, E.I, E.B, E.L, E.R, E.D, E.vs, dI, dB, dL, varD, varsD, List.getElem?_cons_zero, List.getElem?_cons_succ, List.cons_append, List.nil_append, Nat.zero_add, Nat.add_zero, Nat.reduceAdd, and_true, true_and, b2i_one, -eq_self, Kn.eta, Pi.eta, Pu.eta, Rg.eta, Sc.eta, Sc.eta_r, Sc.eta_k, Sc.eta_2, g]
  intro e; (try simp only [e, Kn.eta, Pi.eta, Pu.eta, Rg.eta, Sc.eta, Sc.eta_r, Sc.eta_k, Sc.eta_2, -eq_self]); clear e
  refine ⟨fun c0 => ?_, fun c0 => ?_⟩
  intro e; (try simp only [e, Kn.eta, Pi.eta, Pu.eta, Rg.eta, Sc.eta, Sc.eta_r, Sc.eta_k, Sc.eta_2, -eq_self]); clear e
  (simp_all)
  (simp_all)
theorem sK_win {sp : Spec} {key : Nat} (hF : sp.F key = sF_win) (hP : sp.pre key = fun _ => True := by rfl) : SmOk Tryz.prog sp (sM_win key) :=
  fun_ok (s := sM_win key) hF hP (by kernel_rfl) tysok_VrA (smc (sK_rin rfl) (smc (sK_qin rfl) sm0)) Tryz.func23 sR_win (.inl rfl) (fun x0 gx0 x1 gx1 x2 gx2 x3 gx3 x4 gx4 x5 gx5 x6 gx6 x7 gx7 x8 gx8 x9 gx9 x10 gx10 x11 gx11 hp ρ g => sX_win ⟨x0, x1, x2, x3, x4, x5⟩ ⟨gx0, gx1, gx2, gx3, gx4, gx5⟩ ⟨x6, x7, x8, x9, x10, x11⟩ ⟨gx6, gx7, gx8, gx9, gx10, gx11⟩ ρ g)
def sM_wwid (key : Nat) : Sm := ⟨27, key, [.agg kSc, .agg kSc], [.agg kSc], false⟩
def sV_wwid (a : Sc) (b : Sc) : List Dt := [.z ((vwid a b).ul), .z ((vwid a b).uh), .z ((vwid a b).sl), .z ((vwid a b).sh), .z ((vwid a b).v), .z ((vwid a b).m)]
def sF_wwid : List Dt → List Dt
  | [.z x0, .z x1, .z x2, .z x3, .z x4, .z x5, .z x6, .z x7, .z x8, .z x9, .z x10, .z x11] => sV_wwid ⟨x0, x1, x2, x3, x4, x5⟩ ⟨x6, x7, x8, x9, x10, x11⟩
  | _ => []
def sT_wwid : Tr :=
(.call 0 ([.bool]) (.vs 0 6 .nil) 12
(.br (.bvar 12)
(.call 0 ([.bool]) (.vs 6 6 .nil) 13
(.br (.bvar 13)
(.call 2 (kRg) .nil 14
(.br (.lt (.var 6) (.var 0))
(.br (.lt (.var 1) (.var 7))
(.br (.lt (.var 8) (.var 2))
(.br (.lt (.var 3) (.var 9))
(.call 4 (kKn) (.vs 4 2 (.vs 10 2 .nil)) 18
(.call 3 (kSc) (.vs 14 6 .nil) 20
(.leaf (.vs 20 6 .nil))))
(.call 4 (kKn) (.vs 4 2 (.vs 10 2 .nil)) 18
(.call 3 (kSc) (.vs 14 3 (.cons (.var 3) (.vs 18 2 .nil))) 20
(.leaf (.vs 20 6 .nil)))))
(.br (.lt (.var 3) (.var 9))
(.call 4 (kKn) (.vs 4 2 (.vs 10 2 .nil)) 18
(.call 3 (kSc) (.vs 14 2 (.cons (.var 2) (.vs 17 3 .nil))) 20
(.leaf (.vs 20 6 .nil))))
(.call 4 (kKn) (.vs 4 2 (.vs 10 2 .nil)) 18
(.call 3 (kSc) (.vs 14 2 (.vs 2 2 (.vs 18 2 .nil))) 20
(.leaf (.vs 20 6 .nil))))))
(.br (.lt (.var 8) (.var 2))
(.br (.lt (.var 3) (.var 9))
(.call 4 (kKn) (.vs 4 2 (.vs 10 2 .nil)) 18
(.call 3 (kSc) (.cons (.var 14) (.cons (.var 1) (.vs 16 4 .nil))) 20
(.leaf (.vs 20 6 .nil))))
(.call 4 (kKn) (.vs 4 2 (.vs 10 2 .nil)) 18
(.call 3 (kSc) (.cons (.var 14) (.cons (.var 1) (.cons (.var 16) (.cons (.var 3) (.vs 18 2 .nil))))) 20
(.leaf (.vs 20 6 .nil)))))
(.br (.lt (.var 3) (.var 9))
(.call 4 (kKn) (.vs 4 2 (.vs 10 2 .nil)) 18
(.call 3 (kSc) (.cons (.var 14) (.vs 1 2 (.vs 17 3 .nil))) 20
(.leaf (.vs 20 6 .nil))))
(.call 4 (kKn) (.vs 4 2 (.vs 10 2 .nil)) 18
(.call 3 (kSc) (.cons (.var 14) (.vs 1 3 (.vs 18 2 .nil))) 20
(.leaf (.vs 20 6 .nil)))))))
(.br (.lt (.var 1) (.var 7))
(.br (.lt (.var 8) (.var 2))
(.br (.lt (.var 3) (.var 9))
(.call 4 (kKn) (.vs 4 2 (.vs 10 2 .nil)) 18
(.call 3 (kSc) (.cons (.var 0) (.vs 15 5 .nil)) 20
(.leaf (.vs 20 6 .nil))))
(.call 4 (kKn) (.vs 4 2 (.vs 10 2 .nil)) 18
(.call 3 (kSc) (.cons (.var 0) (.vs 15 2 (.cons (.var 3) (.vs 18 2 .nil)))) 20
(.leaf (.vs 20 6 .nil)))))
(.br (.lt (.var 3) (.var 9))
(.call 4 (kKn) (.vs 4 2 (.vs 10 2 .nil)) 18
(.call 3 (kSc) (.cons (.var 0) (.cons (.var 15) (.cons (.var 2) (.vs 17 3 .nil)))) 20
(.leaf (.vs 20 6 .nil))))
(.call 4 (kKn) (.vs 4 2 (.vs 10 2 .nil)) 18
(.call 3 (kSc) (.cons (.var 0) (.cons (.var 15) (.vs 2 2 (.vs 18 2 .nil)))) 20
(.leaf (.vs 20 6 .nil))))))
(.br (.lt (.var 8) (.var 2))
(.br (.lt (.var 3) (.var 9))
(.call 4 (kKn) (.vs 4 2 (.vs 10 2 .nil)) 18
(.call 3 (kSc) (.vs 0 2 (.vs 16 4 .nil)) 20
(.leaf (.vs 20 6 .nil))))
(.call 4 (kKn) (.vs 4 2 (.vs 10 2 .nil)) 18
(.call 3 (kSc) (.vs 0 2 (.cons (.var 16) (.cons (.var 3) (.vs 18 2 .nil)))) 20
(.leaf (.vs 20 6 .nil)))))
(.br (.lt (.var 3) (.var 9))
(.call 4 (kKn) (.vs 4 2 (.vs 10 2 .nil)) 18
(.call 3 (kSc) (.vs 0 3 (.vs 17 3 .nil)) 20
(.leaf (.vs 20 6 .nil))))
(.call 4 (kKn) (.vs 4 2 (.vs 10 2 .nil)) 18
(.call 3 (kSc) (.vs 0 4 (.vs 18 2 .nil)) 20
(.leaf (.vs 20 6 .nil)))))))))
(.call 1 (kSc) .nil 14
(.leaf (.vs 14 6 .nil)))))
(.call 1 (kSc) .nil 13
(.leaf (.vs 13 6 .nil)))))
def sP_wwid : Spec := ⟨fun k => match k with | 0 => sF_wmay | 1 => sF_wall | 2 => sF_rall | 3 => sF_wnard | 4 => sF_qjoin | _ => fun _ => [], fun k => match k with | _ => fun _ => True⟩
set_option maxRecDepth 100000 in
theorem sR_wwid : treeIs tys_VrA [sM_wmay 0, sM_wall 1, sM_rall 2, sM_wnard 3, sM_qjoin 4] [] [] 200 Tryz.f27 [.agg kSc, .agg kSc] [.agg kSc] false [.int .u64, .int .u64, .int .i64, .int .i64, .int .u64, .int .u64, .int .u64, .int .u64, .int .i64, .int .i64, .int .u64, .int .u64] sT_wwid := ⟨by kernel_rfl, by kernel_rfl, by kernel_rfl⟩
set_option maxRecDepth 100000 in
set_option maxHeartbeats 8000000 in
theorem sX_wwid (a : Sc) (ha : Sc.ok a) (b : Sc) (hb : Sc.ok b) (ρ : Env) (g : varsD ρ 0 [.int .u64, .int .u64, .int .i64, .int .i64, .int .u64, .int .u64, .int .u64, .int .u64, .int .i64, .int .i64, .int .u64, .int .u64] = [.z a.ul, .z a.uh, .z a.sl, .z a.sh, .z a.v, .z a.m, .z b.ul, .z b.uh, .z b.sl, .z b.sh, .z b.v, .z b.m]) : sT_wwid.asks sP_wwid (fun ρ e => e.D ρ = sF_wwid [.z a.ul, .z a.uh, .z a.sl, .z a.sh, .z a.v, .z a.m, .z b.ul, .z b.uh, .z b.sl, .z b.sh, .z b.v, .z b.m]) ρ fun _ _ => False := by
  simp only [varsD, varD, List.cons.injEq, Dt.z.injEq, Dt.l.injEq, b2i_eq_iff, Nat.reduceAdd, and_true] at g
  simp only [sT_wwid, sP_wwid, kKn, kRg, kSc, sF_wmay, sF_wall, sF_rall, sF_wnard, sF_qjoin, sV_wmay, sV_wnard, sV_qjoin, sF_wwid, sV_wwid, Tr.asks, upd_same, okDs, okD, eqs, E.I, E.B, E.L, E.R, E.D, E.vs, dI, dB, dL, varD, varsD, List.getElem?_cons_zero, List.getElem?_cons_succ, List.cons_append, List.nil_append, Nat.zero_add, Nat.add_zero, Nat.reduceAdd, and_true, true_and, b2i_one, -eq_self, Kn.eta, Pi.eta, Pu.eta, Rg.eta, Sc.eta, Sc.eta_r, Sc.eta_k, Sc.eta_2, g]
  intro e; (try simp only [e, Kn.eta, Pi.eta, Pu.eta, Rg.eta, Sc.eta, Sc.eta_r, Sc.eta_k, Sc.eta_2, -eq_self]); clear e
  refine ⟨fun c0 => ?_, fun c0 => ?_⟩
  intro e; (try simp only [e, Kn.eta, Pi.eta, Pu.eta, Rg.eta, Sc.eta, Sc.eta_r, Sc.eta_k, Sc.eta_2, -eq_self]); clear e
  refine ⟨fun c1 => ?_, fun c1 => ?_⟩
  intro e; (try simp only [e, Kn.eta, Pi.eta, Pu.eta, Rg.eta, Sc.eta, Sc.eta_r, Sc.eta_k, Sc.eta_2, -eq_self]); clear e
  refine ⟨fun c2 => ?_, fun c2 => ?_⟩
  refine ⟨fun c3 => ?_, fun c3 => ?_⟩
  refine ⟨fun c4 => ?_, fun c4 => ?_⟩
  refine ⟨fun c5 => ?_, fun c5 => ?_⟩
  intro e; (try simp only [e, Kn.eta, Pi.eta, Pu.eta, Rg.eta, Sc.eta, Sc.eta_r, Sc.eta_k, Sc.eta_2, -eq_self]); clear e
  intro e; (try simp only [e, Kn.eta, Pi.eta, Pu.eta, Rg.eta, Sc.eta, Sc.eta_r, Sc.eta_k, Sc.eta_2, -eq_self]); clear e
  exact agg_Sc (vwid_mk c0 c1 (bwid_mk (bw_t c2) (bx_t c3) (bw_t c4) (bx_t c5))).symm
  intro e; (try simp only [e, Kn.eta, Pi.eta, Pu.eta, Rg.eta, Sc.eta, Sc.eta_r, Sc.eta_k, Sc.eta_2, -eq_self]); clear e
  intro e; (try simp only [e, Kn.eta, Pi.eta, Pu.eta, Rg.eta, Sc.eta, Sc.eta_r, Sc.eta_k, Sc.eta_2, -eq_self]); clear e
  exact agg_Sc (vwid_mk c0 c1 (bwid_mk (bw_t c2) (bx_t c3) (bw_t c4) (bx_f c5))).symm
  refine ⟨fun c6 => ?_, fun c6 => ?_⟩
  intro e; (try simp only [e, Kn.eta, Pi.eta, Pu.eta, Rg.eta, Sc.eta, Sc.eta_r, Sc.eta_k, Sc.eta_2, -eq_self]); clear e
  intro e; (try simp only [e, Kn.eta, Pi.eta, Pu.eta, Rg.eta, Sc.eta, Sc.eta_r, Sc.eta_k, Sc.eta_2, -eq_self]); clear e
  exact agg_Sc (vwid_mk c0 c1 (bwid_mk (bw_t c2) (bx_t c3) (bw_f c4) (bx_t c6))).symm
  intro e; (try simp only [e, Kn.eta, Pi.eta, Pu.eta, Rg.eta, Sc.eta, Sc.eta_r, Sc.eta_k, Sc.eta_2, -eq_self]); clear e
  intro e; (try simp only [e, Kn.eta, Pi.eta, Pu.eta, Rg.eta, Sc.eta, Sc.eta_r, Sc.eta_k, Sc.eta_2, -eq_self]); clear e
  exact agg_Sc (vwid_mk c0 c1 (bwid_mk (bw_t c2) (bx_t c3) (bw_f c4) (bx_f c6))).symm
  refine ⟨fun c7 => ?_, fun c7 => ?_⟩
  refine ⟨fun c8 => ?_, fun c8 => ?_⟩
  intro e; (try simp only [e, Kn.eta, Pi.eta, Pu.eta, Rg.eta, Sc.eta, Sc.eta_r, Sc.eta_k, Sc.eta_2, -eq_self]); clear e
  intro e; (try simp only [e, Kn.eta, Pi.eta, Pu.eta, Rg.eta, Sc.eta, Sc.eta_r, Sc.eta_k, Sc.eta_2, -eq_self]); clear e
  exact agg_Sc (vwid_mk c0 c1 (bwid_mk (bw_t c2) (bx_f c3) (bw_t c7) (bx_t c8))).symm
  intro e; (try simp only [e, Kn.eta, Pi.eta, Pu.eta, Rg.eta, Sc.eta, Sc.eta_r, Sc.eta_k, Sc.eta_2, -eq_self]); clear e
  intro e; (try simp only [e, Kn.eta, Pi.eta, Pu.eta, Rg.eta, Sc.eta, Sc.eta_r, Sc.eta_k, Sc.eta_2, -eq_self]); clear e
  exact agg_Sc (vwid_mk c0 c1 (bwid_mk (bw_t c2) (bx_f c3) (bw_t c7) (bx_f c8))).symm
  refine ⟨fun c9 => ?_, fun c9 => ?_⟩
  intro e; (try simp only [e, Kn.eta, Pi.eta, Pu.eta, Rg.eta, Sc.eta, Sc.eta_r, Sc.eta_k, Sc.eta_2, -eq_self]); clear e
  intro e; (try simp only [e, Kn.eta, Pi.eta, Pu.eta, Rg.eta, Sc.eta, Sc.eta_r, Sc.eta_k, Sc.eta_2, -eq_self]); clear e
  exact agg_Sc (vwid_mk c0 c1 (bwid_mk (bw_t c2) (bx_f c3) (bw_f c7) (bx_t c9))).symm
  intro e; (try simp only [e, Kn.eta, Pi.eta, Pu.eta, Rg.eta, Sc.eta, Sc.eta_r, Sc.eta_k, Sc.eta_2, -eq_self]); clear e
  intro e; (try simp only [e, Kn.eta, Pi.eta, Pu.eta, Rg.eta, Sc.eta, Sc.eta_r, Sc.eta_k, Sc.eta_2, -eq_self]); clear e
  exact agg_Sc (vwid_mk c0 c1 (bwid_mk (bw_t c2) (bx_f c3) (bw_f c7) (bx_f c9))).symm
  refine ⟨fun c10 => ?_, fun c10 => ?_⟩
  refine ⟨fun c11 => ?_, fun c11 => ?_⟩
  refine ⟨fun c12 => ?_, fun c12 => ?_⟩
  intro e; (try simp only [e, Kn.eta, Pi.eta, Pu.eta, Rg.eta, Sc.eta, Sc.eta_r, Sc.eta_k, Sc.eta_2, -eq_self]); clear e
  intro e; (try simp only [e, Kn.eta, Pi.eta, Pu.eta, Rg.eta, Sc.eta, Sc.eta_r, Sc.eta_k, Sc.eta_2, -eq_self]); clear e
  exact agg_Sc (vwid_mk c0 c1 (bwid_mk (bw_f c2) (bx_t c10) (bw_t c11) (bx_t c12))).symm
  intro e; (try simp only [e, Kn.eta, Pi.eta, Pu.eta, Rg.eta, Sc.eta, Sc.eta_r, Sc.eta_k, Sc.eta_2, -eq_self]); clear e
  intro e; (try simp only [e, Kn.eta, Pi.eta, Pu.eta, Rg.eta, Sc.eta, Sc.eta_r, Sc.eta_k, Sc.eta_2, -eq_self]); clear e
  exact agg_Sc (vwid_mk c0 c1 (bwid_mk (bw_f c2) (bx_t c10) (bw_t c11) (bx_f c12))).symm
  refine ⟨fun c13 => ?_, fun c13 => ?_⟩
  intro e; (try simp only [e, Kn.eta, Pi.eta, Pu.eta, Rg.eta, Sc.eta, Sc.eta_r, Sc.eta_k, Sc.eta_2, -eq_self]); clear e
  intro e; (try simp only [e, Kn.eta, Pi.eta, Pu.eta, Rg.eta, Sc.eta, Sc.eta_r, Sc.eta_k, Sc.eta_2, -eq_self]); clear e
  exact agg_Sc (vwid_mk c0 c1 (bwid_mk (bw_f c2) (bx_t c10) (bw_f c11) (bx_t c13))).symm
  intro e; (try simp only [e, Kn.eta, Pi.eta, Pu.eta, Rg.eta, Sc.eta, Sc.eta_r, Sc.eta_k, Sc.eta_2, -eq_self]); clear e
  intro e; (try simp only [e, Kn.eta, Pi.eta, Pu.eta, Rg.eta, Sc.eta, Sc.eta_r, Sc.eta_k, Sc.eta_2, -eq_self]); clear e
  exact agg_Sc (vwid_mk c0 c1 (bwid_mk (bw_f c2) (bx_t c10) (bw_f c11) (bx_f c13))).symm
  refine ⟨fun c14 => ?_, fun c14 => ?_⟩
  refine ⟨fun c15 => ?_, fun c15 => ?_⟩
  intro e; (try simp only [e, Kn.eta, Pi.eta, Pu.eta, Rg.eta, Sc.eta, Sc.eta_r, Sc.eta_k, Sc.eta_2, -eq_self]); clear e
  intro e; (try simp only [e, Kn.eta, Pi.eta, Pu.eta, Rg.eta, Sc.eta, Sc.eta_r, Sc.eta_k, Sc.eta_2, -eq_self]); clear e
  exact agg_Sc (vwid_mk c0 c1 (bwid_mk (bw_f c2) (bx_f c10) (bw_t c14) (bx_t c15))).symm
  intro e; (try simp only [e, Kn.eta, Pi.eta, Pu.eta, Rg.eta, Sc.eta, Sc.eta_r, Sc.eta_k, Sc.eta_2, -eq_self]); clear e
  intro e; (try simp only [e, Kn.eta, Pi.eta, Pu.eta, Rg.eta, Sc.eta, Sc.eta_r, Sc.eta_k, Sc.eta_2, -eq_self]); clear e
  exact agg_Sc (vwid_mk c0 c1 (bwid_mk (bw_f c2) (bx_f c10) (bw_t c14) (bx_f c15))).symm
  refine ⟨fun c16 => ?_, fun c16 => ?_⟩
  intro e; (try simp only [e, Kn.eta, Pi.eta, Pu.eta, Rg.eta, Sc.eta, Sc.eta_r, Sc.eta_k, Sc.eta_2, -eq_self]); clear e
  intro e; (try simp only [e, Kn.eta, Pi.eta, Pu.eta, Rg.eta, Sc.eta, Sc.eta_r, Sc.eta_k, Sc.eta_2, -eq_self]); clear e
  exact agg_Sc (vwid_mk c0 c1 (bwid_mk (bw_f c2) (bx_f c10) (bw_f c14) (bx_t c16))).symm
  intro e; (try simp only [e, Kn.eta, Pi.eta, Pu.eta, Rg.eta, Sc.eta, Sc.eta_r, Sc.eta_k, Sc.eta_2, -eq_self]); clear e
  intro e; (try simp only [e, Kn.eta, Pi.eta, Pu.eta, Rg.eta, Sc.eta, Sc.eta_r, Sc.eta_k, Sc.eta_2, -eq_self]); clear e
  exact agg_Sc (vwid_mk c0 c1 (bwid_mk (bw_f c2) (bx_f c10) (bw_f c14) (bx_f c16))).symm
  intro e; (try simp only [e, Kn.eta, Pi.eta, Pu.eta, Rg.eta, Sc.eta, Sc.eta_r, Sc.eta_k, Sc.eta_2, -eq_self]); clear e
  (rw [show vwid a b = vall from if_neg (fun q => by simp_all)]; try rfl)
  intro e; (try simp only [e, Kn.eta, Pi.eta, Pu.eta, Rg.eta, Sc.eta, Sc.eta_r, Sc.eta_k, Sc.eta_2, -eq_self]); clear e
  (rw [show vwid a b = vall from if_neg (fun q => by simp_all)]; try rfl)
theorem sK_wwid {sp : Spec} {key : Nat} (hF : sp.F key = sF_wwid) (hP : sp.pre key = fun _ => True := by rfl) : SmOk Tryz.prog sp (sM_wwid key) :=
  fun_ok (s := sM_wwid key) hF hP (by kernel_rfl) tysok_VrA (smc (sK_wmay rfl) (smc (sK_wall rfl) (smc (sK_rall rfl) (smc (sK_wnard rfl) (smc (sK_qjoin rfl) sm0))))) Tryz.func27 sR_wwid (.inl rfl) (fun x0 gx0 x1 gx1 x2 gx2 x3 gx3 x4 gx4 x5 gx5 x6 gx6 x7 gx7 x8 gx8 x9 gx9 x10 gx10 x11 gx11 hp ρ g => sX_wwid ⟨x0, x1, x2, x3, x4, x5⟩ ⟨gx0, gx1, gx2, gx3, gx4, gx5⟩ ⟨x6, x7, x8, x9, x10, x11⟩ ⟨gx6, gx7, gx8, gx9, gx10, gx11⟩ ρ g)
def sM_wlow (key : Nat) : Sm := ⟨75, key, [.agg kSc], [.agg kSc], false⟩
def sV_wlow (a : Sc) : List Dt := [.z ((vlow a).ul), .z ((vlow a).uh), .z ((vlow a).sl), .z ((vlow a).sh), .z ((vlow a).v), .z ((vlow a).m)]
def sF_wlow : List Dt → List Dt
  | [.z x0, .z x1, .z x2, .z x3, .z x4, .z x5] => sV_wlow ⟨x0, x1, x2, x3, x4, x5⟩
  | _ => []
def sT_wlow : Tr :=
(.call 0 (kRg) (.vs 0 4 .nil) 6
(.call 1 (kKn) (.vs 4 2 (.cons (.lit 32) .nil)) 10
(.call 2 (kSc) (.vs 6 6 .nil) 12
(.leaf (.vs 12 6 .nil)))))
def sP_wlow : Spec := ⟨fun k => match k with | 0 => sF_rlow | 1 => sF_qcut | 2 => sF_wnard | _ => fun _ => [], fun k => match k with | _ => fun _ => True⟩
set_option maxRecDepth 100000 in
theorem sR_wlow : treeIs tys_VrA [sM_rlow 0, sM_qcut 1, sM_wnard 2] [] [] 200 Tryz.f75 [.agg kSc] [.agg kSc] false [.int .u64, .int .u64, .int .i64, .int .i64, .int .u64, .int .u64] sT_wlow := ⟨by kernel_rfl, by kernel_rfl, by kernel_rfl⟩
set_option maxRecDepth 100000 in
set_option maxHeartbeats 8000000 in
theorem sX_wlow (a : Sc) (ha : Sc.ok a) (ρ : Env) (g : varsD ρ 0 [.int .u64, .int .u64, .int .i64, .int .i64, .int .u64, .int .u64] = [.z a.ul, .z a.uh, .z a.sl, .z a.sh, .z a.v, .z a.m]) : sT_wlow.asks sP_wlow (fun ρ e => e.D ρ = sF_wlow [.z a.ul, .z a.uh, .z a.sl, .z a.sh, .z a.v, .z a.m]) ρ fun _ _ => False := by
  simp only [varsD, varD, List.cons.injEq, Dt.z.injEq, Dt.l.injEq, b2i_eq_iff, Nat.reduceAdd, and_true] at g
  simp only [sT_wlow, sP_wlow, kKn, kRg, kSc, sF_rlow, sF_qcut, sF_wnard, sV_rlow, sV_qcut, sV_wnard, sF_wlow, sV_wlow, Tr.asks, upd_same, okDs, okD, eqs, E.I, E.B, E.L, E.R, E.D, E.vs, dI, dB, dL, varD, varsD, List.getElem?_cons_zero, List.getElem?_cons_succ, List.cons_append, List.nil_append, Nat.zero_add, Nat.add_zero, Nat.reduceAdd, and_true, true_and, b2i_one, -eq_self, Kn.eta, Pi.eta, Pu.eta, Rg.eta, Sc.eta, Sc.eta_r, Sc.eta_k, Sc.eta_2, g]
  intro e; (try simp only [e, Kn.eta, Pi.eta, Pu.eta, Rg.eta, Sc.eta, Sc.eta_r, Sc.eta_k, Sc.eta_2, -eq_self]); clear e
  intro e; (try simp only [e, Kn.eta, Pi.eta, Pu.eta, Rg.eta, Sc.eta, Sc.eta_r, Sc.eta_k, Sc.eta_2, -eq_self]); clear e
  intro e; (try simp only [e, Kn.eta, Pi.eta, Pu.eta, Rg.eta, Sc.eta, Sc.eta_r, Sc.eta_k, Sc.eta_2, -eq_self]); clear e
  rfl
theorem sK_wlow {sp : Spec} {key : Nat} (hF : sp.F key = sF_wlow) (hP : sp.pre key = fun _ => True := by rfl) : SmOk Tryz.prog sp (sM_wlow key) :=
  fun_ok (s := sM_wlow key) hF hP (by kernel_rfl) tysok_VrA (smc (sK_rlow rfl) (smc (sK_qcut rfl) (smc (sK_wnard rfl) sm0))) Tryz.func75 sR_wlow (.inl rfl) (fun x0 gx0 x1 gx1 x2 gx2 x3 gx3 x4 gx4 x5 gx5 hp ρ g => sX_wlow ⟨x0, x1, x2, x3, x4, x5⟩ ⟨gx0, gx1, gx2, gx3, gx4, gx5⟩ ρ g)
def sM_wby4 (key : Nat) : Sm := ⟨17, key, [.one (.lit .i64 4)], [.agg kSc], false⟩
def sF_wby4 : List Dt → List Dt
  | [] => [.z ((vbel 4294967295).ul), .z ((vbel 4294967295).uh), .z ((vbel 4294967295).sl), .z ((vbel 4294967295).sh), .z ((vbel 4294967295).v), .z ((vbel 4294967295).m)]
  | _ => []
def sT_wby4 : Tr :=
(.call 0 (kSc) .nil 0
(.call 1 (kKn) .nil 6
(.call 2 (kKn) (.vs 6 2 (.cons (.lit 32) .nil)) 8
(.call 3 (kSc ++ [.bool]) (.cons (.var 0) (.cons (.lit 4294967295) (.vs 2 2 (.vs 8 2 .nil)))) 10
(.leaf (.vs 10 6 .nil))))))
def sP_wby4 : Spec := ⟨fun k => match k with | 0 => sF_wall | 1 => sF_qall | 2 => sF_qcut | 3 => sF_wnar | _ => fun _ => [], fun k => match k with | _ => fun _ => True⟩
set_option maxRecDepth 100000 in
theorem sR_wby4 : treeIs tys_VrA [sM_wall 0, sM_qall 1, sM_qcut 2, sM_wnar 3] [] [] 200 Tryz.f17 [.one (.lit .i64 4)] [.agg kSc] false [] sT_wby4 := ⟨by kernel_rfl, by kernel_rfl, by kernel_rfl⟩
set_option maxRecDepth 100000 in
set_option maxHeartbeats 8000000 in
theorem sX_wby4  (ρ : Env) (g : varsD ρ 0 [] = []) : sT_wby4.asks sP_wby4 (fun ρ e => e.D ρ = sF_wby4 []) ρ fun _ _ => False := by
  simp only [sT_wby4, sP_wby4, kKn, kSc, sF_wall, sF_qall, sF_qcut, sF_wnar, sV_qcut, sV_wnar, sF_wby4, Tr.asks, upd_same, okDs, okD, eqs, E.I, E.B, E.L, E.R, E.D, E.vs, dI, dB, dL, varD, varsD, List.getElem?_cons_zero, List.getElem?_cons_succ, List.cons_append, List.nil_append, Nat.zero_add, Nat.add_zero, Nat.reduceAdd, and_true, true_and, b2i_one, -eq_self, Kn.eta, Pi.eta, Pu.eta, Rg.eta, Sc.eta, Sc.eta_r, Sc.eta_k, Sc.eta_2]
  intro e; (try simp only [e, Kn.eta, Pi.eta, Pu.eta, Rg.eta, Sc.eta, Sc.eta_r, Sc.eta_k, Sc.eta_2, -eq_self]); clear e
  intro e; (try simp only [e, Kn.eta, Pi.eta, Pu.eta, Rg.eta, Sc.eta, Sc.eta_r, Sc.eta_k, Sc.eta_2, -eq_self]); clear e
  intro e; (try simp only [e, Kn.eta, Pi.eta, Pu.eta, Rg.eta, Sc.eta, Sc.eta_r, Sc.eta_k, Sc.eta_2, -eq_self]); clear e
  intro e; (try simp only [e, Kn.eta, Pi.eta, Pu.eta, Rg.eta, Sc.eta, Sc.eta_r, Sc.eta_k, Sc.eta_2, -eq_self]); clear e
  (rw [show kcut kall 32 = (⟨0, 4294967295⟩ : Kn) from by decide +kernel]; rfl)
theorem sK_wby4 {sp : Spec} {key : Nat} (hF : sp.F key = sF_wby4) (hP : sp.pre key = fun _ => True := by rfl) : SmOk Tryz.prog sp (sM_wby4 key) :=
  fun_ok (s := sM_wby4 key) hF hP (by kernel_rfl) tysok_VrA (smc (sK_wall rfl) (smc (sK_qall rfl) (smc (sK_qcut rfl) (smc (sK_wnar rfl) sm0)))) Tryz.func17 sR_wby4 (.inl rfl) (fun  hp ρ g => sX_wby4 ρ g)
def sM_wdo (key : Nat) : Sm := ⟨25, key, [.one (.int .i8), .one (.int .i8), .agg kSc, .agg kSc], [.agg kSc], false⟩
def sV_wdo (op : Int) (l : Int) (a : Sc) (b : Sc) : List Dt := [.z ((vdo op l a b).ul), .z ((vdo op l a b).uh), .z ((vdo op l a b).sl), .z ((vdo op l a b).sh), .z ((vdo op l a b).v), .z ((vdo op l a b).m)]
def sF_wdo : List Dt → List Dt
  | [.z x0, .z x1, .z x2, .z x3, .z x4, .z x5, .z x6, .z x7, .z x8, .z x9, .z x10, .z x11, .z x12, .z x13] => sV_wdo x0 x1 ⟨x2, x3, x4, x5, x6, x7⟩ ⟨x8, x9, x10, x11, x12, x13⟩
  | _ => []
def sT_wdo : Tr :=
(.call 0 ([.int .u64] ++ [.int .i64]) (.vs 0 2 .nil) 14
(.call 1 ([.bool]) (.vs 2 6 .nil) 16
(.br (.bvar 16)
(.call 1 ([.bool]) (.vs 8 6 .nil) 17
(.br (.bvar 17)
(.br (.eq (.var 15) (.lit 0))
(.br (.eq (.var 1) (.lit 64))
(.call 3 (kRg) (.cons (.var 0) (.vs 2 4 (.vs 8 4 .nil))) 18
(.call 4 (kKn) (.cons (.var 0) (.cons (.lit 64) (.vs 6 2 (.vs 12 2 .nil)))) 22
(.call 5 (kSc) (.vs 18 6 .nil) 24
(.leaf (.vs 24 6 .nil)))))
(.call 6 (kSc) (.vs 2 6 .nil) 18
(.call 6 (kSc) (.vs 8 6 .nil) 24
(.call 8 (kRg) .nil 30
(.call 7 (kRg) (.vs 30 4 .nil) 34
(.call 9 ([.int .u64] ++ [.bool]) (.vs 24 6 .nil) 38
(.br (.eq (.var 0) (.lit 6))
(.br (.bvar 39)
(.br (.eq (.var 0) (.lit 8))
(.br (.lt (.var 35) (.lit 4294967296))
(.call 4 (kKn) (.cons (.var 0) (.cons (.lit 32) (.vs 22 2 (.vs 28 2 .nil)))) 40
(.call 11 (kSc ++ [.bool]) (.vs 34 4 (.vs 40 2 .nil)) 42
(.br (.bvar 48)
(.leaf (.vs 42 6 .nil))
(.call 12 (kSc) .nil 49
(.leaf (.vs 49 6 .nil))))))
(.call 4 (kKn) (.cons (.var 0) (.cons (.lit 32) (.vs 22 2 (.vs 28 2 .nil)))) 40
(.call 11 (kSc ++ [.bool]) (.vs 34 4 (.vs 40 2 .nil)) 42
(.br (.bvar 48)
(.leaf (.vs 42 6 .nil))
(.call 12 (kSc) .nil 49
(.leaf (.vs 49 6 .nil)))))))
(.br (.eq (.var 0) (.lit 12))
(.br (.lt (.var 35) (.lit 4294967296))
(.call 4 (kKn) (.cons (.var 0) (.cons (.lit 32) (.vs 22 2 (.vs 28 2 .nil)))) 40
(.call 11 (kSc ++ [.bool]) (.vs 34 4 (.vs 40 2 .nil)) 42
(.br (.bvar 48)
(.leaf (.vs 42 6 .nil))
(.call 12 (kSc) .nil 49
(.leaf (.vs 49 6 .nil))))))
(.call 4 (kKn) (.cons (.var 0) (.cons (.lit 32) (.vs 22 2 (.vs 28 2 .nil)))) 40
(.call 11 (kSc ++ [.bool]) (.vs 34 4 (.vs 40 2 .nil)) 42
(.br (.bvar 48)
(.leaf (.vs 42 6 .nil))
(.call 12 (kSc) .nil 49
(.leaf (.vs 49 6 .nil)))))))
(.call 10 (kRg) (.cons (.bin .rem .u64 (.var 38) (.lit 32)) .nil) 40
(.call 3 (kRg) (.cons (.var 0) (.vs 18 4 (.vs 40 4 .nil))) 44
(.br (.lt (.var 45) (.lit 4294967296))
(.call 4 (kKn) (.cons (.var 0) (.cons (.lit 32) (.vs 22 2 (.vs 28 2 .nil)))) 48
(.call 11 (kSc ++ [.bool]) (.vs 44 6 .nil) 50
(.br (.bvar 56)
(.leaf (.vs 50 6 .nil))
(.call 12 (kSc) .nil 57
(.leaf (.vs 57 6 .nil))))))
(.call 4 (kKn) (.cons (.var 0) (.cons (.lit 32) (.vs 22 2 (.vs 28 2 .nil)))) 48
(.call 11 (kSc ++ [.bool]) (.vs 34 4 (.vs 48 2 .nil)) 50
(.br (.bvar 56)
(.leaf (.vs 50 6 .nil))
(.call 12 (kSc) .nil 57
(.leaf (.vs 57 6 .nil)))))))))))
(.br (.lt (.var 35) (.lit 4294967296))
(.call 4 (kKn) (.cons (.var 0) (.cons (.lit 32) (.vs 22 2 (.vs 28 2 .nil)))) 40
(.call 11 (kSc ++ [.bool]) (.vs 34 4 (.vs 40 2 .nil)) 42
(.br (.bvar 48)
(.leaf (.vs 42 6 .nil))
(.call 12 (kSc) .nil 49
(.leaf (.vs 49 6 .nil))))))
(.call 4 (kKn) (.cons (.var 0) (.cons (.lit 32) (.vs 22 2 (.vs 28 2 .nil)))) 40
(.call 11 (kSc ++ [.bool]) (.vs 34 4 (.vs 40 2 .nil)) 42
(.br (.bvar 48)
(.leaf (.vs 42 6 .nil))
(.call 12 (kSc) .nil 49
(.leaf (.vs 49 6 .nil))))))))
(.br (.eq (.var 0) (.lit 7))
(.br (.bvar 39)
(.br (.eq (.var 0) (.lit 8))
(.br (.lt (.var 35) (.lit 4294967296))
(.call 4 (kKn) (.cons (.var 0) (.cons (.lit 32) (.vs 22 2 (.vs 28 2 .nil)))) 40
(.call 11 (kSc ++ [.bool]) (.vs 34 4 (.vs 40 2 .nil)) 42
(.br (.bvar 48)
(.leaf (.vs 42 6 .nil))
(.call 12 (kSc) .nil 49
(.leaf (.vs 49 6 .nil))))))
(.call 4 (kKn) (.cons (.var 0) (.cons (.lit 32) (.vs 22 2 (.vs 28 2 .nil)))) 40
(.call 11 (kSc ++ [.bool]) (.vs 34 4 (.vs 40 2 .nil)) 42
(.br (.bvar 48)
(.leaf (.vs 42 6 .nil))
(.call 12 (kSc) .nil 49
(.leaf (.vs 49 6 .nil)))))))
(.br (.eq (.var 0) (.lit 12))
(.br (.lt (.var 35) (.lit 4294967296))
(.call 4 (kKn) (.cons (.var 0) (.cons (.lit 32) (.vs 22 2 (.vs 28 2 .nil)))) 40
(.call 11 (kSc ++ [.bool]) (.vs 34 4 (.vs 40 2 .nil)) 42
(.br (.bvar 48)
(.leaf (.vs 42 6 .nil))
(.call 12 (kSc) .nil 49
(.leaf (.vs 49 6 .nil))))))
(.call 4 (kKn) (.cons (.var 0) (.cons (.lit 32) (.vs 22 2 (.vs 28 2 .nil)))) 40
(.call 11 (kSc ++ [.bool]) (.vs 34 4 (.vs 40 2 .nil)) 42
(.br (.bvar 48)
(.leaf (.vs 42 6 .nil))
(.call 12 (kSc) .nil 49
(.leaf (.vs 49 6 .nil)))))))
(.call 10 (kRg) (.cons (.bin .rem .u64 (.var 38) (.lit 32)) .nil) 40
(.call 3 (kRg) (.cons (.var 0) (.vs 18 4 (.vs 40 4 .nil))) 44
(.br (.lt (.var 45) (.lit 4294967296))
(.call 4 (kKn) (.cons (.var 0) (.cons (.lit 32) (.vs 22 2 (.vs 28 2 .nil)))) 48
(.call 11 (kSc ++ [.bool]) (.vs 44 6 .nil) 50
(.br (.bvar 56)
(.leaf (.vs 50 6 .nil))
(.call 12 (kSc) .nil 57
(.leaf (.vs 57 6 .nil))))))
(.call 4 (kKn) (.cons (.var 0) (.cons (.lit 32) (.vs 22 2 (.vs 28 2 .nil)))) 48
(.call 11 (kSc ++ [.bool]) (.vs 34 4 (.vs 48 2 .nil)) 50
(.br (.bvar 56)
(.leaf (.vs 50 6 .nil))
(.call 12 (kSc) .nil 57
(.leaf (.vs 57 6 .nil)))))))))))
(.br (.lt (.var 35) (.lit 4294967296))
(.call 4 (kKn) (.cons (.var 0) (.cons (.lit 32) (.vs 22 2 (.vs 28 2 .nil)))) 40
(.call 11 (kSc ++ [.bool]) (.vs 34 4 (.vs 40 2 .nil)) 42
(.br (.bvar 48)
(.leaf (.vs 42 6 .nil))
(.call 12 (kSc) .nil 49
(.leaf (.vs 49 6 .nil))))))
(.call 4 (kKn) (.cons (.var 0) (.cons (.lit 32) (.vs 22 2 (.vs 28 2 .nil)))) 40
(.call 11 (kSc ++ [.bool]) (.vs 34 4 (.vs 40 2 .nil)) 42
(.br (.bvar 48)
(.leaf (.vs 42 6 .nil))
(.call 12 (kSc) .nil 49
(.leaf (.vs 49 6 .nil))))))))
(.br (.eq (.var 0) (.lit 12))
(.br (.bvar 39)
(.br (.eq (.var 0) (.lit 8))
(.br (.lt (.var 35) (.lit 4294967296))
(.call 4 (kKn) (.cons (.var 0) (.cons (.lit 32) (.vs 22 2 (.vs 28 2 .nil)))) 40
(.call 11 (kSc ++ [.bool]) (.vs 34 4 (.vs 40 2 .nil)) 42
(.br (.bvar 48)
(.leaf (.vs 42 6 .nil))
(.call 12 (kSc) .nil 49
(.leaf (.vs 49 6 .nil))))))
(.call 4 (kKn) (.cons (.var 0) (.cons (.lit 32) (.vs 22 2 (.vs 28 2 .nil)))) 40
(.call 11 (kSc ++ [.bool]) (.vs 34 4 (.vs 40 2 .nil)) 42
(.br (.bvar 48)
(.leaf (.vs 42 6 .nil))
(.call 12 (kSc) .nil 49
(.leaf (.vs 49 6 .nil)))))))
(.br (.lt (.var 35) (.lit 4294967296))
(.call 4 (kKn) (.cons (.var 0) (.cons (.lit 32) (.vs 22 2 (.vs 28 2 .nil)))) 40
(.call 11 (kSc ++ [.bool]) (.vs 34 4 (.vs 40 2 .nil)) 42
(.br (.bvar 48)
(.leaf (.vs 42 6 .nil))
(.call 12 (kSc) .nil 49
(.leaf (.vs 49 6 .nil))))))
(.call 4 (kKn) (.cons (.var 0) (.cons (.lit 32) (.vs 22 2 (.vs 28 2 .nil)))) 40
(.call 11 (kSc ++ [.bool]) (.vs 34 4 (.vs 40 2 .nil)) 42
(.br (.bvar 48)
(.leaf (.vs 42 6 .nil))
(.call 12 (kSc) .nil 49
(.leaf (.vs 49 6 .nil))))))))
(.br (.lt (.var 35) (.lit 4294967296))
(.call 4 (kKn) (.cons (.var 0) (.cons (.lit 32) (.vs 22 2 (.vs 28 2 .nil)))) 40
(.call 11 (kSc ++ [.bool]) (.vs 34 4 (.vs 40 2 .nil)) 42
(.br (.bvar 48)
(.leaf (.vs 42 6 .nil))
(.call 12 (kSc) .nil 49
(.leaf (.vs 49 6 .nil))))))
(.call 4 (kKn) (.cons (.var 0) (.cons (.lit 32) (.vs 22 2 (.vs 28 2 .nil)))) 40
(.call 11 (kSc ++ [.bool]) (.vs 34 4 (.vs 40 2 .nil)) 42
(.br (.bvar 48)
(.leaf (.vs 42 6 .nil))
(.call 12 (kSc) .nil 49
(.leaf (.vs 49 6 .nil))))))))
(.br (.eq (.var 0) (.lit 8))
(.br (.lt (.var 35) (.lit 4294967296))
(.call 4 (kKn) (.cons (.var 0) (.cons (.lit 32) (.vs 22 2 (.vs 28 2 .nil)))) 40
(.call 11 (kSc ++ [.bool]) (.vs 34 4 (.vs 40 2 .nil)) 42
(.br (.bvar 48)
(.leaf (.vs 42 6 .nil))
(.call 12 (kSc) .nil 49
(.leaf (.vs 49 6 .nil))))))
(.call 4 (kKn) (.cons (.var 0) (.cons (.lit 32) (.vs 22 2 (.vs 28 2 .nil)))) 40
(.call 11 (kSc ++ [.bool]) (.vs 34 4 (.vs 40 2 .nil)) 42
(.br (.bvar 48)
(.leaf (.vs 42 6 .nil))
(.call 12 (kSc) .nil 49
(.leaf (.vs 49 6 .nil)))))))
(.call 3 (kRg) (.cons (.var 0) (.vs 18 4 (.vs 24 4 .nil))) 40
(.br (.lt (.var 41) (.lit 4294967296))
(.call 4 (kKn) (.cons (.var 0) (.cons (.lit 32) (.vs 22 2 (.vs 28 2 .nil)))) 44
(.call 11 (kSc ++ [.bool]) (.vs 40 6 .nil) 46
(.br (.bvar 52)
(.leaf (.vs 46 6 .nil))
(.call 12 (kSc) .nil 53
(.leaf (.vs 53 6 .nil))))))
(.call 4 (kKn) (.cons (.var 0) (.cons (.lit 32) (.vs 22 2 (.vs 28 2 .nil)))) 44
(.call 11 (kSc ++ [.bool]) (.vs 34 4 (.vs 44 2 .nil)) 46
(.br (.bvar 52)
(.leaf (.vs 46 6 .nil))
(.call 12 (kSc) .nil 53
(.leaf (.vs 53 6 .nil))))))))))))))))))
(.call 2 (kSc) .nil 18
(.leaf (.vs 18 6 .nil))))
(.call 2 (kSc) .nil 18
(.leaf (.vs 18 6 .nil)))))
(.call 2 (kSc) .nil 17
(.leaf (.vs 17 6 .nil))))))
def sP_wdo : Spec := ⟨fun k => match k with | 0 => sF_rbits0 | 1 => sF_wmay | 2 => sF_wall | 3 => sF_rdo | 4 => sF_qdo | 5 => sF_wnard | 6 => sF_wlow | 7 => sF_rlow | 8 => sF_rall | 9 => sF_wsingle | 10 => sF_rone | 11 => sF_wnar | 12 => sF_wby4 | _ => fun _ => [], fun k => match k with | _ => fun _ => True⟩
set_option maxRecDepth 100000 in
theorem sR_wdo : treeIs tys_VrA [sM_rbits0 0, sM_wmay 1, sM_wall 2, sM_rdo 3, sM_qdo 4, sM_wnard 5, sM_wlow 6, sM_rlow 7, sM_rall 8, sM_wsingle 9, sM_rone 10, sM_wnar 11, sM_wby4 12] [] [] 200 Tryz.f25 [.one (.int .i8), .one (.int .i8), .agg kSc, .agg kSc] [.agg kSc] false [.int .i8, .int .i8, .int .u64, .int .u64, .int .i64, .int .i64, .int .u64, .int .u64, .int .u64, .int .u64, .int .i64, .int .i64, .int .u64, .int .u64] sT_wdo := ⟨by kernel_rfl, by kernel_rfl, by kernel_rfl⟩
set_option maxRecDepth 100000 in
set_option maxHeartbeats 8000000 in
theorem sX_wdo (op : Int) (hop : inK .i8 op = true) (l : Int) (hl : inK .i8 l = true) (a : Sc) (ha : Sc.ok a) (b : Sc) (hb : Sc.ok b) (ρ : Env) (g : varsD ρ 0 [.int .i8, .int .i8, .int .u64, .int .u64, .int .i64, .int .i64, .int .u64, .int .u64, .int .u64, .int .u64, .int .i64, .int .i64, .int .u64, .int .u64] = [.z op, .z l, .z a.ul, .z a.uh, .z a.sl, .z a.sh, .z a.v, .z a.m, .z b.ul, .z b.uh, .z b.sl, .z b.sh, .z b.v, .z b.m]) : sT_wdo.asks sP_wdo (fun ρ e => e.D ρ = sF_wdo [.z op, .z l, .z a.ul, .z a.uh, .z a.sl, .z a.sh, .z a.v, .z a.m, .z b.ul, .z b.uh, .z b.sl, .z b.sh, .z b.v, .z b.m]) ρ fun _ _ => False := by
  simp only [varsD, varD, List.cons.injEq, Dt.z.injEq, Dt.l.injEq, b2i_eq_iff, Nat.reduceAdd, and_true] at g
  simp only [sT_wdo, sP_wdo, kKn, kRg, kSc, sF_rbits0, sF_wmay, sF_wall, sF_rdo, sF_qdo, sF_wnard, sF_wlow, sF_rlow, sF_rall, sF_wsingle, sF_rone, sF_wnar, sF_wby4, sV_rbits0, sV_wmay, sV_rdo, sV_qdo, sV_wnard, sV_wlow, sV_rlow, sV_wsingle, sV_rone, sV_wnar, sF_wdo, sV_wdo, Tr.asks, upd_same, okDs, okD, eqs, E.I, E.B, E.L, E.R, E.D, E.vs, dI, dB, dL, varD, varsD, List.getElem?_cons_zero, List.getElem?_cons_succ, List.cons_append, List.nil_append, Nat.zero_add, Nat.add_zero, Nat.reduceAdd, and_true, true_and, b2i_one, -eq_self, Kn.eta, Pi.eta, Pu.eta, Rg.eta, Sc.eta, Sc.eta_r, Sc.eta_k, Sc.eta_2, g]
  intro e; (try simp only [e, Kn.eta, Pi.eta, Pu.eta, Rg.eta, Sc.eta, Sc.eta_r, Sc.eta_k, Sc.eta_2, -eq_self]); clear e
  intro e; (try simp only [e, Kn.eta, Pi.eta, Pu.eta, Rg.eta, Sc.eta, Sc.eta_r, Sc.eta_k, Sc.eta_2, -eq_self]); clear e
  refine ⟨fun c0 => ?_, fun c0 => ?_⟩
  intro e; (try simp only [e, Kn.eta, Pi.eta, Pu.eta, Rg.eta, Sc.eta, Sc.eta_r, Sc.eta_k, Sc.eta_2, -eq_self]); clear e
  refine ⟨fun c1 => ?_, fun c1 => ?_⟩
  refine ⟨fun c2 => ?_, fun c2 => ?_⟩
  refine ⟨fun c3 => ?_, fun c3 => ?_⟩
  intro e; (try simp only [e, Kn.eta, Pi.eta, Pu.eta, Rg.eta, Sc.eta, Sc.eta_r, Sc.eta_k, Sc.eta_2, -eq_self]); clear e
  intro e; (try simp only [e, Kn.eta, Pi.eta, Pu.eta, Rg.eta, Sc.eta, Sc.eta_r, Sc.eta_k, Sc.eta_2, -eq_self]); clear e
  intro e; (try simp only [e, Kn.eta, Pi.eta, Pu.eta, Rg.eta, Sc.eta, Sc.eta_r, Sc.eta_k, Sc.eta_2, -eq_self]); clear e
  (obtain rfl := eqz c3; exact agg_Sc (wd_64 c0 c1 (ok_of c2)).symm)
  intro e; (try simp only [e, Kn.eta, Pi.eta, Pu.eta, Rg.eta, Sc.eta, Sc.eta_r, Sc.eta_k, Sc.eta_2, -eq_self]); clear e
  intro e; (try simp only [e, Kn.eta, Pi.eta, Pu.eta, Rg.eta, Sc.eta, Sc.eta_r, Sc.eta_k, Sc.eta_2, -eq_self]); clear e
  intro e; (try simp only [e, Kn.eta, Pi.eta, Pu.eta, Rg.eta, Sc.eta, Sc.eta_r, Sc.eta_k, Sc.eta_2, -eq_self]); clear e
  intro e; (try simp only [e, Kn.eta, Pi.eta, Pu.eta, Rg.eta, Sc.eta, Sc.eta_r, Sc.eta_k, Sc.eta_2, -eq_self]); clear e
  intro e; (try simp only [e, Kn.eta, Pi.eta, Pu.eta, Rg.eta, Sc.eta, Sc.eta_r, Sc.eta_k, Sc.eta_2, -eq_self]); clear e
  refine ⟨fun c4 => ?_, fun c4 => ?_⟩
  refine ⟨fun c5 => ?_, fun c5 => ?_⟩
  refine ⟨fun c6 => ?_, fun c6 => ?_⟩
  refine ⟨fun c7 => ?_, fun c7 => ?_⟩
  intro e; (try simp only [e, Kn.eta, Pi.eta, Pu.eta, Rg.eta, Sc.eta, Sc.eta_r, Sc.eta_k, Sc.eta_2, -eq_self]); clear e
  intro e; (try simp only [e, Kn.eta, Pi.eta, Pu.eta, Rg.eta, Sc.eta, Sc.eta_r, Sc.eta_k, Sc.eta_2, -eq_self]); clear e
  refine ⟨fun c8 => ?_, fun c8 => ?_⟩
  (exfalso; have h1 := eqz c4; have h2 := eqz c6; omega)
  intro e; (try simp only [e, Kn.eta, Pi.eta, Pu.eta, Rg.eta, Sc.eta, Sc.eta_r, Sc.eta_k, Sc.eta_2, -eq_self]); clear e
  (exfalso; have h1 := eqz c4; have h2 := eqz c6; omega)
  intro e; (try simp only [e, Kn.eta, Pi.eta, Pu.eta, Rg.eta, Sc.eta, Sc.eta_r, Sc.eta_k, Sc.eta_2, -eq_self]); clear e
  intro e; (try simp only [e, Kn.eta, Pi.eta, Pu.eta, Rg.eta, Sc.eta, Sc.eta_r, Sc.eta_k, Sc.eta_2, -eq_self]); clear e
  refine ⟨fun c9 => ?_, fun c9 => ?_⟩
  (exfalso; have h1 := eqz c4; have h2 := eqz c6; omega)
  intro e; (try simp only [e, Kn.eta, Pi.eta, Pu.eta, Rg.eta, Sc.eta, Sc.eta_r, Sc.eta_k, Sc.eta_2, -eq_self]); clear e
  (exfalso; have h1 := eqz c4; have h2 := eqz c6; omega)
  refine ⟨fun c10 => ?_, fun c10 => ?_⟩
  refine ⟨fun c11 => ?_, fun c11 => ?_⟩
  intro e; (try simp only [e, Kn.eta, Pi.eta, Pu.eta, Rg.eta, Sc.eta, Sc.eta_r, Sc.eta_k, Sc.eta_2, -eq_self]); clear e
  intro e; (try simp only [e, Kn.eta, Pi.eta, Pu.eta, Rg.eta, Sc.eta, Sc.eta_r, Sc.eta_k, Sc.eta_2, -eq_self]); clear e
  refine ⟨fun c12 => ?_, fun c12 => ?_⟩
  (exfalso; have h1 := eqz c4; have h2 := eqz c10; omega)
  intro e; (try simp only [e, Kn.eta, Pi.eta, Pu.eta, Rg.eta, Sc.eta, Sc.eta_r, Sc.eta_k, Sc.eta_2, -eq_self]); clear e
  (exfalso; have h1 := eqz c4; have h2 := eqz c10; omega)
  intro e; (try simp only [e, Kn.eta, Pi.eta, Pu.eta, Rg.eta, Sc.eta, Sc.eta_r, Sc.eta_k, Sc.eta_2, -eq_self]); clear e
  intro e; (try simp only [e, Kn.eta, Pi.eta, Pu.eta, Rg.eta, Sc.eta, Sc.eta_r, Sc.eta_k, Sc.eta_2, -eq_self]); clear e
  refine ⟨fun c13 => ?_, fun c13 => ?_⟩
  (exfalso; have h1 := eqz c4; have h2 := eqz c10; omega)
  intro e; (try simp only [e, Kn.eta, Pi.eta, Pu.eta, Rg.eta, Sc.eta, Sc.eta_r, Sc.eta_k, Sc.eta_2, -eq_self]); clear e
  (exfalso; have h1 := eqz c4; have h2 := eqz c10; omega)
  intro e; (try simp only [e, Kn.eta, Pi.eta, Pu.eta, Rg.eta, Sc.eta, Sc.eta_r, Sc.eta_k, Sc.eta_2, -eq_self]); clear e
  intro e; (try simp only [e, Kn.eta, Pi.eta, Pu.eta, Rg.eta, Sc.eta, Sc.eta_r, Sc.eta_k, Sc.eta_2, -eq_self]); clear e
  refine ⟨fun c14 => ?_, fun c14 => ?_⟩
  intro e; (try simp only [e, Kn.eta, Pi.eta, Pu.eta, Rg.eta, Sc.eta, Sc.eta_r, Sc.eta_k, Sc.eta_2, -eq_self]); clear e
  intro e; (try simp only [e, Kn.eta, Pi.eta, Pu.eta, Rg.eta, Sc.eta, Sc.eta_r, Sc.eta_k, Sc.eta_2, -eq_self]); clear e
  refine ⟨fun c15 => ?_, fun c15 => ?_⟩
  exact agg_Sc (wd_1 c0 c1 (ok_of c2) (nez c3) (vh_s (wf_vlow (Sc.wf_of hb)) (.inl (eqz c4)) c5) c14 c15).symm
  intro e; (try simp only [e, Kn.eta, Pi.eta, Pu.eta, Rg.eta, Sc.eta, Sc.eta_r, Sc.eta_k, Sc.eta_2, -eq_self]); clear e
  exact agg_Sc (wd_2 c0 c1 (ok_of c2) (nez c3) (vh_s (wf_vlow (Sc.wf_of hb)) (.inl (eqz c4)) c5) c14 c15).symm
  intro e; (try simp only [e, Kn.eta, Pi.eta, Pu.eta, Rg.eta, Sc.eta, Sc.eta_r, Sc.eta_k, Sc.eta_2, -eq_self]); clear e
  intro e; (try simp only [e, Kn.eta, Pi.eta, Pu.eta, Rg.eta, Sc.eta, Sc.eta_r, Sc.eta_k, Sc.eta_2, -eq_self]); clear e
  refine ⟨fun c16 => ?_, fun c16 => ?_⟩
  exact agg_Sc (wd_3 c0 c1 (ok_of c2) (nez c3) (vh_s (wf_vlow (Sc.wf_of hb)) (.inl (eqz c4)) c5) c14 c16).symm
  intro e; (try simp only [e, Kn.eta, Pi.eta, Pu.eta, Rg.eta, Sc.eta, Sc.eta_r, Sc.eta_k, Sc.eta_2, -eq_self]); clear e
  exact agg_Sc (wd_4 c0 c1 (ok_of c2) (nez c3) (vh_s (wf_vlow (Sc.wf_of hb)) (.inl (eqz c4)) c5) c14 c16).symm
  refine ⟨fun c17 => ?_, fun c17 => ?_⟩
  intro e; (try simp only [e, Kn.eta, Pi.eta, Pu.eta, Rg.eta, Sc.eta, Sc.eta_r, Sc.eta_k, Sc.eta_2, -eq_self]); clear e
  intro e; (try simp only [e, Kn.eta, Pi.eta, Pu.eta, Rg.eta, Sc.eta, Sc.eta_r, Sc.eta_k, Sc.eta_2, -eq_self]); clear e
  refine ⟨fun c18 => ?_, fun c18 => ?_⟩
  exact agg_Sc (wd_1 c0 c1 (ok_of c2) (nez c3) (vh_o (.inl (eqz c4)) c5) c17 c18).symm
  intro e; (try simp only [e, Kn.eta, Pi.eta, Pu.eta, Rg.eta, Sc.eta, Sc.eta_r, Sc.eta_k, Sc.eta_2, -eq_self]); clear e
  exact agg_Sc (wd_2 c0 c1 (ok_of c2) (nez c3) (vh_o (.inl (eqz c4)) c5) c17 c18).symm
  intro e; (try simp only [e, Kn.eta, Pi.eta, Pu.eta, Rg.eta, Sc.eta, Sc.eta_r, Sc.eta_k, Sc.eta_2, -eq_self]); clear e
  intro e; (try simp only [e, Kn.eta, Pi.eta, Pu.eta, Rg.eta, Sc.eta, Sc.eta_r, Sc.eta_k, Sc.eta_2, -eq_self]); clear e
  refine ⟨fun c19 => ?_, fun c19 => ?_⟩
  exact agg_Sc (wd_3 c0 c1 (ok_of c2) (nez c3) (vh_o (.inl (eqz c4)) c5) c17 c19).symm
  intro e; (try simp only [e, Kn.eta, Pi.eta, Pu.eta, Rg.eta, Sc.eta, Sc.eta_r, Sc.eta_k, Sc.eta_2, -eq_self]); clear e
  exact agg_Sc (wd_4 c0 c1 (ok_of c2) (nez c3) (vh_o (.inl (eqz c4)) c5) c17 c19).symm
  refine ⟨fun c20 => ?_, fun c20 => ?_⟩
  refine ⟨fun c21 => ?_, fun c21 => ?_⟩
  refine ⟨fun c22 => ?_, fun c22 => ?_⟩
  refine ⟨fun c23 => ?_, fun c23 => ?_⟩
  intro e; (try simp only [e, Kn.eta, Pi.eta, Pu.eta, Rg.eta, Sc.eta, Sc.eta_r, Sc.eta_k, Sc.eta_2, -eq_self]); clear e
  intro e; (try simp only [e, Kn.eta, Pi.eta, Pu.eta, Rg.eta, Sc.eta, Sc.eta_r, Sc.eta_k, Sc.eta_2, -eq_self]); clear e
  refine ⟨fun c24 => ?_, fun c24 => ?_⟩
  (exfalso; have h1 := eqz c20; have h2 := eqz c22; omega)
  intro e; (try simp only [e, Kn.eta, Pi.eta, Pu.eta, Rg.eta, Sc.eta, Sc.eta_r, Sc.eta_k, Sc.eta_2, -eq_self]); clear e
  (exfalso; have h1 := eqz c20; have h2 := eqz c22; omega)
  intro e; (try simp only [e, Kn.eta, Pi.eta, Pu.eta, Rg.eta, Sc.eta, Sc.eta_r, Sc.eta_k, Sc.eta_2, -eq_self]); clear e
  intro e; (try simp only [e, Kn.eta, Pi.eta, Pu.eta, Rg.eta, Sc.eta, Sc.eta_r, Sc.eta_k, Sc.eta_2, -eq_self]); clear e
  refine ⟨fun c25 => ?_, fun c25 => ?_⟩
  (exfalso; have h1 := eqz c20; have h2 := eqz c22; omega)
  intro e; (try simp only [e, Kn.eta, Pi.eta, Pu.eta, Rg.eta, Sc.eta, Sc.eta_r, Sc.eta_k, Sc.eta_2, -eq_self]); clear e
  (exfalso; have h1 := eqz c20; have h2 := eqz c22; omega)
  refine ⟨fun c26 => ?_, fun c26 => ?_⟩
  refine ⟨fun c27 => ?_, fun c27 => ?_⟩
  intro e; (try simp only [e, Kn.eta, Pi.eta, Pu.eta, Rg.eta, Sc.eta, Sc.eta_r, Sc.eta_k, Sc.eta_2, -eq_self]); clear e
  intro e; (try simp only [e, Kn.eta, Pi.eta, Pu.eta, Rg.eta, Sc.eta, Sc.eta_r, Sc.eta_k, Sc.eta_2, -eq_self]); clear e
  refine ⟨fun c28 => ?_, fun c28 => ?_⟩
  (exfalso; have h1 := eqz c20; have h2 := eqz c26; omega)
  intro e; (try simp only [e, Kn.eta, Pi.eta, Pu.eta, Rg.eta, Sc.eta, Sc.eta_r, Sc.eta_k, Sc.eta_2, -eq_self]); clear e
  (exfalso; have h1 := eqz c20; have h2 := eqz c26; omega)
  intro e; (try simp only [e, Kn.eta, Pi.eta, Pu.eta, Rg.eta, Sc.eta, Sc.eta_r, Sc.eta_k, Sc.eta_2, -eq_self]); clear e
  intro e; (try simp only [e, Kn.eta, Pi.eta, Pu.eta, Rg.eta, Sc.eta, Sc.eta_r, Sc.eta_k, Sc.eta_2, -eq_self]); clear e
  refine ⟨fun c29 => ?_, fun c29 => ?_⟩
  (exfalso; have h1 := eqz c20; have h2 := eqz c26; omega)
  intro e; (try simp only [e, Kn.eta, Pi.eta, Pu.eta, Rg.eta, Sc.eta, Sc.eta_r, Sc.eta_k, Sc.eta_2, -eq_self]); clear e
  (exfalso; have h1 := eqz c20; have h2 := eqz c26; omega)
  intro e; (try simp only [e, Kn.eta, Pi.eta, Pu.eta, Rg.eta, Sc.eta, Sc.eta_r, Sc.eta_k, Sc.eta_2, -eq_self]); clear e
  intro e; (try simp only [e, Kn.eta, Pi.eta, Pu.eta, Rg.eta, Sc.eta, Sc.eta_r, Sc.eta_k, Sc.eta_2, -eq_self]); clear e
  refine ⟨fun c30 => ?_, fun c30 => ?_⟩
  intro e; (try simp only [e, Kn.eta, Pi.eta, Pu.eta, Rg.eta, Sc.eta, Sc.eta_r, Sc.eta_k, Sc.eta_2, -eq_self]); clear e
  intro e; (try simp only [e, Kn.eta, Pi.eta, Pu.eta, Rg.eta, Sc.eta, Sc.eta_r, Sc.eta_k, Sc.eta_2, -eq_self]); clear e
  refine ⟨fun c31 => ?_, fun c31 => ?_⟩
  exact agg_Sc (wd_1 c0 c1 (ok_of c2) (nez c3) (vh_s (wf_vlow (Sc.wf_of hb)) (.inr (eqz c20)) c21) c30 c31).symm
  intro e; (try simp only [e, Kn.eta, Pi.eta, Pu.eta, Rg.eta, Sc.eta, Sc.eta_r, Sc.eta_k, Sc.eta_2, -eq_self]); clear e
  exact agg_Sc (wd_2 c0 c1 (ok_of c2) (nez c3) (vh_s (wf_vlow (Sc.wf_of hb)) (.inr (eqz c20)) c21) c30 c31).symm
  intro e; (try simp only [e, Kn.eta, Pi.eta, Pu.eta, Rg.eta, Sc.eta, Sc.eta_r, Sc.eta_k, Sc.eta_2, -eq_self]); clear e
  intro e; (try simp only [e, Kn.eta, Pi.eta, Pu.eta, Rg.eta, Sc.eta, Sc.eta_r, Sc.eta_k, Sc.eta_2, -eq_self]); clear e
  refine ⟨fun c32 => ?_, fun c32 => ?_⟩
  exact agg_Sc (wd_3 c0 c1 (ok_of c2) (nez c3) (vh_s (wf_vlow (Sc.wf_of hb)) (.inr (eqz c20)) c21) c30 c32).symm
  intro e; (try simp only [e, Kn.eta, Pi.eta, Pu.eta, Rg.eta, Sc.eta, Sc.eta_r, Sc.eta_k, Sc.eta_2, -eq_self]); clear e
  exact agg_Sc (wd_4 c0 c1 (ok_of c2) (nez c3) (vh_s (wf_vlow (Sc.wf_of hb)) (.inr (eqz c20)) c21) c30 c32).symm
  refine ⟨fun c33 => ?_, fun c33 => ?_⟩
  intro e; (try simp only [e, Kn.eta, Pi.eta, Pu.eta, Rg.eta, Sc.eta, Sc.eta_r, Sc.eta_k, Sc.eta_2, -eq_self]); clear e
  intro e; (try simp only [e, Kn.eta, Pi.eta, Pu.eta, Rg.eta, Sc.eta, Sc.eta_r, Sc.eta_k, Sc.eta_2, -eq_self]); clear e
  refine ⟨fun c34 => ?_, fun c34 => ?_⟩
  exact agg_Sc (wd_1 c0 c1 (ok_of c2) (nez c3) (vh_o (.inr (eqz c20)) c21) c33 c34).symm
  intro e; (try simp only [e, Kn.eta, Pi.eta, Pu.eta, Rg.eta, Sc.eta, Sc.eta_r, Sc.eta_k, Sc.eta_2, -eq_self]); clear e
  exact agg_Sc (wd_2 c0 c1 (ok_of c2) (nez c3) (vh_o (.inr (eqz c20)) c21) c33 c34).symm
  intro e; (try simp only [e, Kn.eta, Pi.eta, Pu.eta, Rg.eta, Sc.eta, Sc.eta_r, Sc.eta_k, Sc.eta_2, -eq_self]); clear e
  intro e; (try simp only [e, Kn.eta, Pi.eta, Pu.eta, Rg.eta, Sc.eta, Sc.eta_r, Sc.eta_k, Sc.eta_2, -eq_self]); clear e
  refine ⟨fun c35 => ?_, fun c35 => ?_⟩
  exact agg_Sc (wd_3 c0 c1 (ok_of c2) (nez c3) (vh_o (.inr (eqz c20)) c21) c33 c35).symm
  intro e; (try simp only [e, Kn.eta, Pi.eta, Pu.eta, Rg.eta, Sc.eta, Sc.eta_r, Sc.eta_k, Sc.eta_2, -eq_self]); clear e
  exact agg_Sc (wd_4 c0 c1 (ok_of c2) (nez c3) (vh_o (.inr (eqz c20)) c21) c33 c35).symm
  refine ⟨fun c36 => ?_, fun c36 => ?_⟩
  refine ⟨fun c37 => ?_, fun c37 => ?_⟩
  refine ⟨fun c38 => ?_, fun c38 => ?_⟩
  refine ⟨fun c39 => ?_, fun c39 => ?_⟩
  intro e; (try simp only [e, Kn.eta, Pi.eta, Pu.eta, Rg.eta, Sc.eta, Sc.eta_r, Sc.eta_k, Sc.eta_2, -eq_self]); clear e
  intro e; (try simp only [e, Kn.eta, Pi.eta, Pu.eta, Rg.eta, Sc.eta, Sc.eta_r, Sc.eta_k, Sc.eta_2, -eq_self]); clear e
  refine ⟨fun c40 => ?_, fun c40 => ?_⟩
  (exfalso; have h1 := eqz c36; have h2 := eqz c38; omega)
  intro e; (try simp only [e, Kn.eta, Pi.eta, Pu.eta, Rg.eta, Sc.eta, Sc.eta_r, Sc.eta_k, Sc.eta_2, -eq_self]); clear e
  (exfalso; have h1 := eqz c36; have h2 := eqz c38; omega)
  intro e; (try simp only [e, Kn.eta, Pi.eta, Pu.eta, Rg.eta, Sc.eta, Sc.eta_r, Sc.eta_k, Sc.eta_2, -eq_self]); clear e
  intro e; (try simp only [e, Kn.eta, Pi.eta, Pu.eta, Rg.eta, Sc.eta, Sc.eta_r, Sc.eta_k, Sc.eta_2, -eq_self]); clear e
  refine ⟨fun c41 => ?_, fun c41 => ?_⟩
  (exfalso; have h1 := eqz c36; have h2 := eqz c38; omega)
  intro e; (try simp only [e, Kn.eta, Pi.eta, Pu.eta, Rg.eta, Sc.eta, Sc.eta_r, Sc.eta_k, Sc.eta_2, -eq_self]); clear e
  (exfalso; have h1 := eqz c36; have h2 := eqz c38; omega)
  refine ⟨fun c42 => ?_, fun c42 => ?_⟩
  intro e; (try simp only [e, Kn.eta, Pi.eta, Pu.eta, Rg.eta, Sc.eta, Sc.eta_r, Sc.eta_k, Sc.eta_2, -eq_self]); clear e
  intro e; (try simp only [e, Kn.eta, Pi.eta, Pu.eta, Rg.eta, Sc.eta, Sc.eta_r, Sc.eta_k, Sc.eta_2, -eq_self]); clear e
  refine ⟨fun c43 => ?_, fun c43 => ?_⟩
  exact agg_Sc (wd_1 c0 c1 (ok_of c2) (nez c3) (vh_n (.inr (eqz c36))) c42 c43).symm
  intro e; (try simp only [e, Kn.eta, Pi.eta, Pu.eta, Rg.eta, Sc.eta, Sc.eta_r, Sc.eta_k, Sc.eta_2, -eq_self]); clear e
  exact agg_Sc (wd_2 c0 c1 (ok_of c2) (nez c3) (vh_n (.inr (eqz c36))) c42 c43).symm
  intro e; (try simp only [e, Kn.eta, Pi.eta, Pu.eta, Rg.eta, Sc.eta, Sc.eta_r, Sc.eta_k, Sc.eta_2, -eq_self]); clear e
  intro e; (try simp only [e, Kn.eta, Pi.eta, Pu.eta, Rg.eta, Sc.eta, Sc.eta_r, Sc.eta_k, Sc.eta_2, -eq_self]); clear e
  refine ⟨fun c44 => ?_, fun c44 => ?_⟩
  exact agg_Sc (wd_3 c0 c1 (ok_of c2) (nez c3) (vh_n (.inr (eqz c36))) c42 c44).symm
  intro e; (try simp only [e, Kn.eta, Pi.eta, Pu.eta, Rg.eta, Sc.eta, Sc.eta_r, Sc.eta_k, Sc.eta_2, -eq_self]); clear e
  exact agg_Sc (wd_4 c0 c1 (ok_of c2) (nez c3) (vh_n (.inr (eqz c36))) c42 c44).symm
  refine ⟨fun c45 => ?_, fun c45 => ?_⟩
  intro e; (try simp only [e, Kn.eta, Pi.eta, Pu.eta, Rg.eta, Sc.eta, Sc.eta_r, Sc.eta_k, Sc.eta_2, -eq_self]); clear e
  intro e; (try simp only [e, Kn.eta, Pi.eta, Pu.eta, Rg.eta, Sc.eta, Sc.eta_r, Sc.eta_k, Sc.eta_2, -eq_self]); clear e
  refine ⟨fun c46 => ?_, fun c46 => ?_⟩
  exact agg_Sc (wd_1 c0 c1 (ok_of c2) (nez c3) (vh_n (.inr (eqz c36))) c45 c46).symm
  intro e; (try simp only [e, Kn.eta, Pi.eta, Pu.eta, Rg.eta, Sc.eta, Sc.eta_r, Sc.eta_k, Sc.eta_2, -eq_self]); clear e
  exact agg_Sc (wd_2 c0 c1 (ok_of c2) (nez c3) (vh_n (.inr (eqz c36))) c45 c46).symm
  intro e; (try simp only [e, Kn.eta, Pi.eta, Pu.eta, Rg.eta, Sc.eta, Sc.eta_r, Sc.eta_k, Sc.eta_2, -eq_self]); clear e
  intro e; (try simp only [e, Kn.eta, Pi.eta, Pu.eta, Rg.eta, Sc.eta, Sc.eta_r, Sc.eta_k, Sc.eta_2, -eq_self]); clear e
  refine ⟨fun c47 => ?_, fun c47 => ?_⟩
  exact agg_Sc (wd_3 c0 c1 (ok_of c2) (nez c3) (vh_n (.inr (eqz c36))) c45 c47).symm
  intro e; (try simp only [e, Kn.eta, Pi.eta, Pu.eta, Rg.eta, Sc.eta, Sc.eta_r, Sc.eta_k, Sc.eta_2, -eq_self]); clear e
  exact agg_Sc (wd_4 c0 c1 (ok_of c2) (nez c3) (vh_n (.inr (eqz c36))) c45 c47).symm
  refine ⟨fun c48 => ?_, fun c48 => ?_⟩
  refine ⟨fun c49 => ?_, fun c49 => ?_⟩
  intro e; (try simp only [e, Kn.eta, Pi.eta, Pu.eta, Rg.eta, Sc.eta, Sc.eta_r, Sc.eta_k, Sc.eta_2, -eq_self]); clear e
  intro e; (try simp only [e, Kn.eta, Pi.eta, Pu.eta, Rg.eta, Sc.eta, Sc.eta_r, Sc.eta_k, Sc.eta_2, -eq_self]); clear e
  refine ⟨fun c50 => ?_, fun c50 => ?_⟩
  exact agg_Sc (wd_1 c0 c1 (ok_of c2) (nez c3) (vh_n (.inl (eqz c48))) c49 c50).symm
  intro e; (try simp only [e, Kn.eta, Pi.eta, Pu.eta, Rg.eta, Sc.eta, Sc.eta_r, Sc.eta_k, Sc.eta_2, -eq_self]); clear e
  exact agg_Sc (wd_2 c0 c1 (ok_of c2) (nez c3) (vh_n (.inl (eqz c48))) c49 c50).symm
  intro e; (try simp only [e, Kn.eta, Pi.eta, Pu.eta, Rg.eta, Sc.eta, Sc.eta_r, Sc.eta_k, Sc.eta_2, -eq_self]); clear e
  intro e; (try simp only [e, Kn.eta, Pi.eta, Pu.eta, Rg.eta, Sc.eta, Sc.eta_r, Sc.eta_k, Sc.eta_2, -eq_self]); clear e
  refine ⟨fun c51 => ?_, fun c51 => ?_⟩
  exact agg_Sc (wd_3 c0 c1 (ok_of c2) (nez c3) (vh_n (.inl (eqz c48))) c49 c51).symm
  intro e; (try simp only [e, Kn.eta, Pi.eta, Pu.eta, Rg.eta, Sc.eta, Sc.eta_r, Sc.eta_k, Sc.eta_2, -eq_self]); clear e
  exact agg_Sc (wd_4 c0 c1 (ok_of c2) (nez c3) (vh_n (.inl (eqz c48))) c49 c51).symm
  intro e; (try simp only [e, Kn.eta, Pi.eta, Pu.eta, Rg.eta, Sc.eta, Sc.eta_r, Sc.eta_k, Sc.eta_2, -eq_self]); clear e
  refine ⟨fun c52 => ?_, fun c52 => ?_⟩
  intro e; (try simp only [e, Kn.eta, Pi.eta, Pu.eta, Rg.eta, Sc.eta, Sc.eta_r, Sc.eta_k, Sc.eta_2, -eq_self]); clear e
  intro e; (try simp only [e, Kn.eta, Pi.eta, Pu.eta, Rg.eta, Sc.eta, Sc.eta_r, Sc.eta_k, Sc.eta_2, -eq_self]); clear e
  refine ⟨fun c53 => ?_, fun c53 => ?_⟩
  exact agg_Sc (wd_1 c0 c1 (ok_of c2) (nez c3) (vh_d (nez c4) (nez c20) (nez c48) (nez c36)) c52 c53).symm
  intro e; (try simp only [e, Kn.eta, Pi.eta, Pu.eta, Rg.eta, Sc.eta, Sc.eta_r, Sc.eta_k, Sc.eta_2, -eq_self]); clear e
  exact agg_Sc (wd_2 c0 c1 (ok_of c2) (nez c3) (vh_d (nez c4) (nez c20) (nez c48) (nez c36)) c52 c53).symm
  intro e; (try simp only [e, Kn.eta, Pi.eta, Pu.eta, Rg.eta, Sc.eta, Sc.eta_r, Sc.eta_k, Sc.eta_2, -eq_self]); clear e
  intro e; (try simp only [e, Kn.eta, Pi.eta, Pu.eta, Rg.eta, Sc.eta, Sc.eta_r, Sc.eta_k, Sc.eta_2, -eq_self]); clear e
  refine ⟨fun c54 => ?_, fun c54 => ?_⟩
  exact agg_Sc (wd_3 c0 c1 (ok_of c2) (nez c3) (vh_d (nez c4) (nez c20) (nez c48) (nez c36)) c52 c54).symm
  intro e; (try simp only [e, Kn.eta, Pi.eta, Pu.eta, Rg.eta, Sc.eta, Sc.eta_r, Sc.eta_k, Sc.eta_2, -eq_self]); clear e
  exact agg_Sc (wd_4 c0 c1 (ok_of c2) (nez c3) (vh_d (nez c4) (nez c20) (nez c48) (nez c36)) c52 c54).symm
  intro e; (try simp only [e, Kn.eta, Pi.eta, Pu.eta, Rg.eta, Sc.eta, Sc.eta_r, Sc.eta_k, Sc.eta_2, -eq_self]); clear e
  (have hk := nok_of c2; exact agg_Sc (wd_no (fun q => by simp_all)).symm)
  intro e; (try simp only [e, Kn.eta, Pi.eta, Pu.eta, Rg.eta, Sc.eta, Sc.eta_r, Sc.eta_k, Sc.eta_2, -eq_self]); clear e
  exact agg_Sc (wd_no (fun q => by simp_all)).symm
  intro e; (try simp only [e, Kn.eta, Pi.eta, Pu.eta, Rg.eta, Sc.eta, Sc.eta_r, Sc.eta_k, Sc.eta_2, -eq_self]); clear e
  exact agg_Sc (wd_no (fun q => by simp_all)).symm
theorem sK_wdo {sp : Spec} {key : Nat} (hF : sp.F key = sF_wdo) (hP : sp.pre key = fun _ => True := by rfl) : SmOk Tryz.prog sp (sM_wdo key) :=
  fun_ok (s := sM_wdo key) hF hP (by kernel_rfl) tysok_VrA (smc (sK_rbits0 rfl) (smc (sK_wmay rfl) (smc (sK_wall rfl) (smc (sK_rdo rfl) (smc (sK_qdo rfl) (smc (sK_wnard rfl) (smc (sK_wlow rfl) (smc (sK_rlow rfl) (smc (sK_rall rfl) (smc (sK_wsingle rfl) (smc (sK_rone rfl) (smc (sK_wnar rfl) (smc (sK_wby4 rfl) sm0))))))))))))) Tryz.func25 sR_wdo (.inl rfl) (fun x0 gx0 x1 gx1 x2 gx2 x3 gx3 x4 gx4 x5 gx5 x6 gx6 x7 gx7 x8 gx8 x9 gx9 x10 gx10 x11 gx11 x12 gx12 x13 gx13 hp ρ g => sX_wdo x0 gx0 x1 gx1 ⟨x2, x3, x4, x5, x6, x7⟩ ⟨gx2, gx3, gx4, gx5, gx6, gx7⟩ ⟨x8, x9, x10, x11, x12, x13⟩ ⟨gx8, gx9, gx10, gx11, gx12, gx13⟩ ρ g)
def sM_wgiv (key : Nat) : Sm := ⟨7, key, [.one (.int .i8), .agg kSc, .agg kSc], [.agg kSc, .one .bool], true⟩
def sV_wgiv (cc : Int) (a : Sc) (b : Sc) : List Dt := [.z ((vgiv cc a b).ul), .z ((vgiv cc a b).uh), .z ((vgiv cc a b).sl), .z ((vgiv cc a b).sh), .z ((vgiv cc a b).v), .z ((vgiv cc a b).m), .z (b2i (vgok cc a b))]
def sF_wgiv : List Dt → List Dt
  | [.z x0, .z x1, .z x2, .z x3, .z x4, .z x5, .z x6, .z x7, .z x8, .z x9, .z x10, .z x11, .z x12] => sV_wgiv x0 ⟨x1, x2, x3, x4, x5, x6⟩ ⟨x7, x8, x9, x10, x11, x12⟩
  | _ => []
def sT_wgiv : Tr :=
(.call 0 ([.bool]) (.vs 1 6 .nil) 13
(.br (.bvar 13)
(.call 0 ([.bool]) (.vs 7 6 .nil) 14
(.br (.bvar 14)
(.call 2 (kRg ++ [.bool]) (.vs 0 5 (.vs 7 4 .nil)) 15
(.br (.bvar 19)
(.br (.eq (.var 0) (.lit 0))
(.call 3 (kKn ++ [.bool]) (.vs 5 2 (.vs 11 2 .nil)) 20
(.br (.bvar 22)
(.call 4 (kSc ++ [.bool]) (.vs 15 4 (.vs 20 2 .nil)) 23
(.leaf (.vs 23 6 (.consb (.bvar 29) .nil))))
(.call 1 (kSc) .nil 23
(.leaf (.vs 23 6 (.consb (.tt false) .nil))))))
(.call 4 (kSc ++ [.bool]) (.vs 15 4 (.vs 5 2 .nil)) 20
(.leaf (.vs 20 6 (.consb (.bvar 26) .nil)))))
(.call 1 (kSc) .nil 20
(.leaf (.vs 20 6 (.consb (.tt false) .nil))))))
(.call 1 (kSc) .nil 15
(.leaf (.vs 15 6 (.consb (.tt false) .nil))))))
(.call 1 (kSc) .nil 14
(.leaf (.vs 14 6 (.consb (.tt false) .nil))))))
def sP_wgiv : Spec := ⟨fun k => match k with | 0 => sF_wmay | 1 => sF_wall | 2 => sF_rgiv | 3 => sF_qmeet | 4 => sF_wnar | _ => fun _ => [], fun k => match k with | _ => fun _ => True⟩
set_option maxRecDepth 100000 in
theorem sR_wgiv : treeIs tys_VrA [sM_wmay 0, sM_wall 1, sM_rgiv 2, sM_qmeet 3, sM_wnar 4] [] [] 200 Tryz.f7 [.one (.int .i8), .agg kSc, .agg kSc] [.agg kSc, .one .bool] true [.int .i8, .int .u64, .int .u64, .int .i64, .int .i64, .int .u64, .int .u64, .int .u64, .int .u64, .int .i64, .int .i64, .int .u64, .int .u64] sT_wgiv := ⟨by kernel_rfl, by kernel_rfl, by kernel_rfl⟩
set_option maxRecDepth 100000 in
set_option maxHeartbeats 8000000 in
theorem sX_wgiv (cc : Int) (hcc : inK .i8 cc = true) (a : Sc) (ha : Sc.ok a) (b : Sc) (hb : Sc.ok b) (ρ : Env) (g : varsD ρ 0 [.int .i8, .int .u64, .int .u64, .int .i64, .int .i64, .int .u64, .int .u64, .int .u64, .int .u64, .int .i64, .int .i64, .int .u64, .int .u64] = [.z cc, .z a.ul, .z a.uh, .z a.sl, .z a.sh, .z a.v, .z a.m, .z b.ul, .z b.uh, .z b.sl, .z b.sh, .z b.v, .z b.m]) : sT_wgiv.asks sP_wgiv (fun ρ e => e.D ρ = sF_wgiv [.z cc, .z a.ul, .z a.uh, .z a.sl, .z a.sh, .z a.v, .z a.m, .z b.ul, .z b.uh, .z b.sl, .z b.sh, .z b.v, .z b.m]) ρ fun _ _ => False := by
  simp only [varsD, varD, List.cons.injEq, Dt.z.injEq, Dt.l.injEq, b2i_eq_iff, Nat.reduceAdd, and_true] at g
  simp only [sT_wgiv, sP_wgiv, kKn, kRg, kSc, sF_wmay, sF_wall, sF_rgiv, sF_qmeet, sF_wnar, sV_wmay, sV_rgiv, sV_qmeet, sV_wnar, sF_wgiv, sV_wgiv, Tr.asks, upd_same, okDs, okD, eqs, E.I, E.B, E.L, E.R, E.D, E.vs, dI, dB, dL, varD, varsD, List.getElem?_cons_zero, List.getElem?_cons_succ, List.cons_append, List.nil_append, Nat.zero_add, Nat.add_zero, Nat.reduceAdd, and_true, true_and, b2i_one, -eq_self, Kn.eta, Pi.eta, Pu.eta, Rg.eta, Sc.eta, Sc.eta_r, Sc.eta_k, Sc.eta_2, g]
  intro e; (try simp only [e, Kn.eta, Pi.eta, Pu.eta, Rg.eta, Sc.eta, Sc.eta_r, Sc.eta_k, Sc.eta_2, -eq_self]); clear e
  refine ⟨fun c0 => ?_, fun c0 => ?_⟩
  intro e; (try simp only [e, Kn.eta, Pi.eta, Pu.eta, Rg.eta, Sc.eta, Sc.eta_r, Sc.eta_k, Sc.eta_2, -eq_self]); clear e
  refine ⟨fun c1 => ?_, fun c1 => ?_⟩
  intro e; (try simp only [e, Kn.eta, Pi.eta, Pu.eta, Rg.eta, Sc.eta, Sc.eta_r, Sc.eta_k, Sc.eta_2, -eq_self]); clear e
  refine ⟨fun c2 => ?_, fun c2 => ?_⟩
  refine ⟨fun c3 => ?_, fun c3 => ?_⟩
  intro e; (try simp only [e, Kn.eta, Pi.eta, Pu.eta, Rg.eta, Sc.eta, Sc.eta_r, Sc.eta_k, Sc.eta_2, -eq_self]); clear e
  refine ⟨fun c4 => ?_, fun c4 => ?_⟩
  intro e; (try simp only [e, Kn.eta, Pi.eta, Pu.eta, Rg.eta, Sc.eta, Sc.eta_r, Sc.eta_k, Sc.eta_2, -eq_self]); clear e
  (have q := vg_0 c0 c1 c2 c3 c4; rw [q.1, q.2]; try rfl)
  intro e; (try simp only [e, Kn.eta, Pi.eta, Pu.eta, Rg.eta, Sc.eta, Sc.eta_r, Sc.eta_k, Sc.eta_2, -eq_self]); clear e
  (have q := vg_f (cc := cc) (a := a) (b := b) (.inr (.inr (.inr ⟨c3, c4⟩))); rw [q.1, q.2]; try rfl)
  intro e; (try simp only [e, Kn.eta, Pi.eta, Pu.eta, Rg.eta, Sc.eta, Sc.eta_r, Sc.eta_k, Sc.eta_2, -eq_self]); clear e
  (have q := vg_n c0 c1 c2 c3; rw [q.1, q.2]; try rfl)
  intro e; (try simp only [e, Kn.eta, Pi.eta, Pu.eta, Rg.eta, Sc.eta, Sc.eta_r, Sc.eta_k, Sc.eta_2, -eq_self]); clear e
  (have q := vg_f (cc := cc) (a := a) (b := b) (.inr (.inr (.inl c2))); rw [q.1, q.2]; try rfl)
  intro e; (try simp only [e, Kn.eta, Pi.eta, Pu.eta, Rg.eta, Sc.eta, Sc.eta_r, Sc.eta_k, Sc.eta_2, -eq_self]); clear e
  (have q := vg_f (cc := cc) (a := a) (b := b) (.inr (.inl c1)); rw [q.1, q.2]; try rfl)
  intro e; (try simp only [e, Kn.eta, Pi.eta, Pu.eta, Rg.eta, Sc.eta, Sc.eta_r, Sc.eta_k, Sc.eta_2, -eq_self]); clear e
  (have q := vg_f (cc := cc) (a := a) (b := b) (.inl c0); rw [q.1, q.2]; try rfl)
theorem sK_wgiv {sp : Spec} {key : Nat} (hF : sp.F key = sF_wgiv) (hP : sp.pre key = fun _ => True := by rfl) : SmOk Tryz.prog sp (sM_wgiv key) :=
  fun_ok (s := sM_wgiv key) hF hP (by kernel_rfl) tysok_VrA (smc (sK_wmay rfl) (smc (sK_wall rfl) (smc (sK_rgiv rfl) (smc (sK_qmeet rfl) (smc (sK_wnar rfl) sm0))))) Tryz.func7 sR_wgiv (.inl rfl) (fun x0 gx0 x1 gx1 x2 gx2 x3 gx3 x4 gx4 x5 gx5 x6 gx6 x7 gx7 x8 gx8 x9 gx9 x10 gx10 x11 gx11 x12 gx12 hp ρ g => sX_wgiv x0 gx0 ⟨x1, x2, x3, x4, x5, x6⟩ ⟨gx1, gx2, gx3, gx4, gx5, gx6⟩ ⟨x7, x8, x9, x10, x11, x12⟩ ⟨gx7, gx8, gx9, gx10, gx11, gx12⟩ ρ g)
end Go.Proofs.YtcfnglbcgkappaaGreat
