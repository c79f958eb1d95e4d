/- Contracts of the document's own package of layer 8, by the symbolic run. -/
import Derived.Test.YtcfnglbcgkappaaGreatKnX
import Derived.Test.YtcfnglbcgkappaaGreatVlZ
import Derived.Test.YtcfnglbcgkappaaGreatProg
import Derived.Laws.Externs
set_option linter.unusedVariables false
set_option linter.unusedSimpArgs false
namespace Go.Proofs.YtcfnglbcgkappaaGreat
open Go.RowKit Go.ChangeShapes Go.WideShapes

def tys_VqA : List (Nat × TI) := [(22, ⟨false, 1, [.int .i8 (.lit 0)], [], none, some .i8, false, false, none, 1, false⟩),
 (23, ⟨false, 1, [.int .u64 (.lit 0)], [], none, some .u64, false, false, none, 8, false⟩),
 (27, ⟨true, 2, [.int .u64 (.lit 0), .int .u64 (.lit 0)], [(0, 23), (1, 23)], none, none, false, false, none, 16, false⟩)]
set_option maxRecDepth 100000 in
theorem tysck_VqA : (tys_VqA.all fun p => ckTI Tryz.prog p.1 p.2) = true := by kernel_rfl
theorem tysne_VqA : (tys_VqA.all fun p => !p.2.eqok) = true := by kernel_rfl
theorem tysok_VqA : ∀ t i, (t, i) ∈ tys_VqA → TIok Tryz.prog t i := by
  intro t i h
  have h1 := all_at (f := fun _ i => !i.eqok) tysne_VqA h
  exact TIok_of (all_at (f := ckTI Tryz.prog) tysck_VqA h) (fun he => by simp [he] at h1) (fun he => by simp [he] at h1)
def sM_rbits (key : Nat) : Sm := ⟨72, key, [.one (.int .i8), .one (.int .i8), .one (.int .u64), .one (.int .u64)], [.one (.int .u64), .one (.int .i64)], true⟩
def sV_rbits (op : Int) (l : Int) (x : Int) (y : Int) : List Dt := [.z (if okop op l = true then zdo op l x y else 0), .z (if okop op l = true then 0 else 2)]
def sF_rbits : List Dt → List Dt
  | [.z x0, .z x1, .z x2, .z x3] => sV_rbits x0 x1 x2 x3
  | _ => []
theorem sX_rbits (op : Int) (hop : inK .i8 op = true) (l : Int) (hl : inK .i8 l = true) (x : Int) (hx : inK .u64 x = true) (y : Int) (hy : inK .u64 y = true) : (∀ w, Calls Tryz.prog 72 #[.int .i8 op, .int .i8 l, .int .u64 x, .int .u64 y] w fun e w' => e = .returned (.tuple #[.int .u64 (if okop op l = true then zdo op l x y else 0), .int .i64 (if okop op l = true then 0 else 2)]) ∧ Ext w w') ∧ valIn (.tuple #[.int .u64 (if okop op l = true then zdo op l x y else 0), .int .i64 (if okop op l = true then 0 else 2)]) = true := by
  have gx := inK_u64 hx
  have gy := inK_u64 hy
  cases hk : okop op l
  · refine ⟨fun w => (rdo_bad op l x y w ?_).mono ?_, by simp [valIn, partIn, cellIn]; decide⟩
    · unfold okop at hk
      rw [Bool.and_eq_false_iff, Bool.and_eq_false_iff] at hk
      rcases hk with (hk | hk) | hk
      · have := of_decide_eq_false hk
        simp; omega
      · have := of_decide_eq_false hk
        simp; omega
      · rw [hk]; simp
    · rintro e w' ⟨rfl, rfl⟩
      exact ⟨by simp, Ext.refl _⟩
  · unfold okop at hk
    simp only [Bool.and_eq_true, decide_eq_true_eq] at hk
    have hz := u64_inK (zdo_bd op l x y gx.1 gx.2 gy.1 gy.2)
    refine ⟨fun w => (rdo_any op l x y w gx.1 gx.2 gy.1 gy.2 hk.1.1 hk.1.2 hk.2).mono ?_, by simp [valIn, partIn, cellIn, hz]; decide⟩
    rintro e w' ⟨rfl, hx⟩
    first
    | exact ⟨by simp, hx⟩
    | (subst hx; exact ⟨by simp, Ext.refl _⟩)
theorem sK_rbits {sp : Spec} {key : Nat} (hF : sp.F key = sF_rbits) : SmOk Tryz.prog sp (sM_rbits key) := by
  refine SmOk.pure hF rfl rfl fun xs vals w h => ?_
  obtain ⟨_, _, _, rfl, ⟨x0, rfl, rfl, gx0⟩, h⟩ := h
  obtain ⟨_, _, _, rfl, ⟨x1, rfl, rfl, gx1⟩, h⟩ := h
  obtain ⟨_, _, _, rfl, ⟨x2, rfl, rfl, gx2⟩, h⟩ := h
  obtain ⟨_, _, _, rfl, ⟨x3, rfl, rfl, gx3⟩, h⟩ := h
  obtain ⟨rfl, rfl⟩ := h
  have q := sX_rbits x0 gx0 x1 gx1 x2 gx2 x3 gx3
  refine ⟨_, .inr ⟨run_enter Tryz.func72 (by kernel_rfl) (by kernel_rfl) _ w, q.1 w⟩, ?_, fun ρ v0 nid j he => ?_⟩
  · have q2 := q.2
    simp [valIn, partIn, cellIn] at q2
    simp [sM_rbits, sF_rbits, sV_rbits, List.flatMap_cons, List.flatMap_nil, Sh.cks, List.append_nil, List.cons_append, List.nil_append, b2i_one, resIn, q2]
  · simp only [sM_rbits, sF_rbits, sV_rbits, List.flatMap_cons, List.flatMap_nil, Sh.cks, List.append_nil, List.cons_append, List.nil_append, b2i_one, eqs, dI, dB, List.getElem?_cons_zero, List.getElem?_cons_succ, Nat.zero_add, Nat.add_zero, Nat.reduceAdd, and_true] at he
    simp [sM_rbits, sF_rbits, sV_rbits, List.flatMap_cons, List.flatMap_nil, Sh.cks, List.append_nil, List.cons_append, List.nil_append, b2i_one, resVof, resParts, resCells, V.den, C.den, denL, den0, den0L, E.I, E.B, he]
def sM_qmay (key : Nat) : Sm := ⟨42, key, [.agg kKn], [.one .bool], false⟩
def sV_qmay (a : Kn) : List Dt := [.z (b2i (kmay a))]
def sF_qmay : List Dt → List Dt
  | [.z x0, .z x1] => sV_qmay ⟨x0, x1⟩
  | _ => []
def sT_qmay : Tr :=
(.leaf (.consb (.eq (.bin .and .u64 (.var 0) (.var 1)) (.lit 0)) .nil))
def sP_qmay : Spec := ⟨fun k => match k with | _ => fun _ => [], fun k => match k with | _ => fun _ => True⟩
set_option maxRecDepth 100000 in
theorem sR_qmay : treeIs tys_VqA [] [] [] 200 Tryz.f42 [.agg kKn] [.one .bool] false [.int .u64, .int .u64] sT_qmay := ⟨by kernel_rfl, by kernel_rfl, by kernel_rfl⟩
set_option maxRecDepth 100000 in
set_option maxHeartbeats 8000000 in
theorem sX_qmay (a : Kn) (ha : Kn.ok a) (ρ : Env) (g : varsD ρ 0 [.int .u64, .int .u64] = [.z a.v, .z a.m]) : sT_qmay.asks sP_qmay (fun ρ e => e.D ρ = sF_qmay [.z a.v, .z a.m]) ρ fun _ _ => False := by
  simp only [varsD, varD, List.cons.injEq, Dt.z.injEq, Dt.l.injEq, b2i_eq_iff, Nat.reduceAdd, and_true] at g
  simp only [sT_qmay, sP_qmay, sF_qmay, sV_qmay, Tr.asks, upd_same, okDs, okD, eqs, E.I, E.B, E.L, E.R, E.D, E.vs, dI, dB, dL, varD, varsD, List.getElem?_cons_zero, List.getElem?_cons_succ, List.cons_append, List.nil_append, Nat.zero_add, Nat.add_zero, Nat.reduceAdd, and_true, true_and, b2i_one, -eq_self, Kn.eta, Sc.eta_r, Sc.eta_k, Sc.eta_2, g]
  rfl
theorem sK_qmay {sp : Spec} {key : Nat} (hF : sp.F key = sF_qmay) (hP : sp.pre key = fun _ => True := by rfl) : SmOk Tryz.prog sp (sM_qmay key) :=
  fun_ok (s := sM_qmay key) hF hP (by kernel_rfl) tysok_VqA (sm0) Tryz.func42 sR_qmay (.inl rfl) (fun x0 gx0 x1 gx1 hp ρ g => sX_qmay ⟨x0, x1⟩ ⟨gx0, gx1⟩ ρ g)
def sM_qall (key : Nat) : Sm := ⟨45, key, [], [.agg kKn], false⟩
def sF_qall : List Dt → List Dt
  | [] => [.z kall.v, .z kall.m]
  | _ => []
def sT_qall : Tr :=
(.leaf (.cons (.lit 0) (.cons (.lit 18446744073709551615) .nil)))
def sP_qall : Spec := ⟨fun k => match k with | _ => fun _ => [], fun k => match k with | _ => fun _ => True⟩
set_option maxRecDepth 100000 in
theorem sR_qall : treeIs tys_VqA [] [] [] 200 Tryz.f45 [] [.agg kKn] false [] sT_qall := ⟨by kernel_rfl, by kernel_rfl, by kernel_rfl⟩
set_option maxRecDepth 100000 in
set_option maxHeartbeats 8000000 in
theorem sX_qall  (ρ : Env) (g : varsD ρ 0 [] = []) : sT_qall.asks sP_qall (fun ρ e => e.D ρ = sF_qall []) ρ fun _ _ => False := by
  simp only [sT_qall, sP_qall, sF_qall, Tr.asks, upd_same, okDs, okD, eqs, E.I, E.B, E.L, E.R, E.D, E.vs, dI, dB, dL, varD, varsD, List.getElem?_cons_zero, List.getElem?_cons_succ, List.cons_append, List.nil_append, Nat.zero_add, Nat.add_zero, Nat.reduceAdd, and_true, true_and, b2i_one, -eq_self, Sc.eta_r, Sc.eta_k, Sc.eta_2]
  rfl
theorem sK_qall {sp : Spec} {key : Nat} (hF : sp.F key = sF_qall) (hP : sp.pre key = fun _ => True := by rfl) : SmOk Tryz.prog sp (sM_qall key) :=
  fun_ok (s := sM_qall key) hF hP (by kernel_rfl) tysok_VqA (sm0) Tryz.func45 sR_qall (.inl rfl) (fun  hp ρ g => sX_qall ρ g)
def sM_qone (key : Nat) : Sm := ⟨49, key, [.one (.int .u64)], [.agg kKn], false⟩
def sV_qone (v : Int) : List Dt := [.z ((kone v).v), .z ((kone v).m)]
def sF_qone : List Dt → List Dt
  | [.z x0] => sV_qone x0
  | _ => []
def sT_qone : Tr :=
(.leaf (.cons (.var 0) (.cons (.lit 0) .nil)))
def sP_qone : Spec := ⟨fun k => match k with | _ => fun _ => [], fun k => match k with | _ => fun _ => True⟩
set_option maxRecDepth 100000 in
theorem sR_qone : treeIs tys_VqA [] [] [] 200 Tryz.f49 [.one (.int .u64)] [.agg kKn] false [.int .u64] sT_qone := ⟨by kernel_rfl, by kernel_rfl, by kernel_rfl⟩
set_option maxRecDepth 100000 in
set_option maxHeartbeats 8000000 in
theorem sX_qone (v : Int) (hv : inK .u64 v = true) (ρ : Env) (g : varsD ρ 0 [.int .u64] = [.z v]) : sT_qone.asks sP_qone (fun ρ e => e.D ρ = sF_qone [.z v]) ρ fun _ _ => False := by
  simp only [varsD, varD, List.cons.injEq, Dt.z.injEq, Dt.l.injEq, b2i_eq_iff, Nat.reduceAdd, and_true] at g
  simp only [sT_qone, sP_qone, sF_qone, sV_qone, Tr.asks, upd_same, okDs, okD, eqs, E.I, E.B, E.L, E.R, E.D, E.vs, dI, dB, dL, varD, varsD, List.getElem?_cons_zero, List.getElem?_cons_succ, List.cons_append, List.nil_append, Nat.zero_add, Nat.add_zero, Nat.reduceAdd, and_true, true_and, b2i_one, -eq_self, Sc.eta_r, Sc.eta_k, Sc.eta_2, g]
  rfl
theorem sK_qone {sp : Spec} {key : Nat} (hF : sp.F key = sF_qone) (hP : sp.pre key = fun _ => True := by rfl) : SmOk Tryz.prog sp (sM_qone key) :=
  fun_ok (s := sM_qone key) hF hP (by kernel_rfl) tysok_VqA (sm0) Tryz.func49 sR_qone (.inl rfl) (fun x0 gx0 hp ρ g => sX_qone x0 gx0 ρ g)
def sM_qhas (key : Nat) : Sm := ⟨55, key, [.agg kKn, .one (.int .u64)], [.one .bool], false⟩
def sV_qhas (a : Kn) (v : Int) : List Dt := [.z (b2i (khas a v))]
def sF_qhas : List Dt → List Dt
  | [.z x0, .z x1, .z x2] => sV_qhas ⟨x0, x1⟩ x2
  | _ => []
def sT_qhas : Tr :=
(.call 0 ([.bool]) (.vs 0 2 .nil) 3
(.br (.bvar 3)
(.leaf (.consb (.eq (.bin .andNot .u64 (.var 2) (.var 1)) (.var 0)) .nil))
(.leaf (.consb (.tt false) .nil))))
def sP_qhas : Spec := ⟨fun k => match k with | 0 => sF_qmay | _ => fun _ => [], fun k => match k with | _ => fun _ => True⟩
set_option maxRecDepth 100000 in
theorem sR_qhas : treeIs tys_VqA [sM_qmay 0] [] [] 200 Tryz.f55 [.agg kKn, .one (.int .u64)] [.one .bool] false [.int .u64, .int .u64, .int .u64] sT_qhas := ⟨by kernel_rfl, by kernel_rfl, by kernel_rfl⟩
set_option maxRecDepth 100000 in
set_option maxHeartbeats 8000000 in
theorem sX_qhas (a : Kn) (ha : Kn.ok a) (v : Int) (hv : inK .u64 v = true) (ρ : Env) (g : varsD ρ 0 [.int .u64, .int .u64, .int .u64] = [.z a.v, .z a.m, .z v]) : sT_qhas.asks sP_qhas (fun ρ e => e.D ρ = sF_qhas [.z a.v, .z a.m, .z v]) ρ fun _ _ => False := by
  simp only [varsD, varD, List.cons.injEq, Dt.z.injEq, Dt.l.injEq, b2i_eq_iff, Nat.reduceAdd, and_true] at g
  simp only [sT_qhas, sP_qhas, sF_qmay, sV_qmay, sF_qhas, sV_qhas, Tr.asks, upd_same, okDs, okD, eqs, E.I, E.B, E.L, E.R, E.D, E.vs, dI, dB, dL, varD, varsD, List.getElem?_cons_zero, List.getElem?_cons_succ, List.cons_append, List.nil_append, Nat.zero_add, Nat.add_zero, Nat.reduceAdd, and_true, true_and, b2i_one, -eq_self, Kn.eta, Pi.eta, Pu.eta, Rg.eta, Sc.eta, Sc.eta_r, Sc.eta_k, Sc.eta_2, g]
  intro e; (try simp only [e, Kn.eta, Pi.eta, Pu.eta, Rg.eta, Sc.eta, Sc.eta_r, Sc.eta_k, Sc.eta_2, -eq_self]); clear e
  refine ⟨fun c0 => ?_, fun c0 => ?_⟩
  (unfold khas; simp_all [opI])
  (unfold khas; simp_all [opI])
theorem sK_qhas {sp : Spec} {key : Nat} (hF : sp.F key = sF_qhas) (hP : sp.pre key = fun _ => True := by rfl) : SmOk Tryz.prog sp (sM_qhas key) :=
  fun_ok (s := sM_qhas key) hF hP (by kernel_rfl) tysok_VqA (smc (sK_qmay rfl) sm0) Tryz.func55 sR_qhas (.inl rfl) (fun x0 gx0 x1 gx1 x2 gx2 hp ρ g => sX_qhas ⟨x0, x1⟩ ⟨gx0, gx1⟩ x2 gx2 ρ g)
def sM_qjoin (key : Nat) : Sm := ⟨61, key, [.agg kKn, .agg kKn], [.agg kKn], false⟩
def sV_qjoin (a : Kn) (b : Kn) : List Dt := [.z ((kjoin a b).v), .z ((kjoin a b).m)]
def sF_qjoin : List Dt → List Dt
  | [.z x0, .z x1, .z x2, .z x3] => sV_qjoin ⟨x0, x1⟩ ⟨x2, x3⟩
  | _ => []
def sT_qjoin : Tr :=
(.call 0 ([.bool]) (.vs 0 2 .nil) 4
(.br (.bvar 4)
(.call 0 ([.bool]) (.vs 2 2 .nil) 5
(.br (.bvar 5)
(.leaf (.cons (.bin .andNot .u64 (.var 0) (.bin .or .u64 (.bin .or .u64 (.var 1) (.var 3)) (.bin .xor .u64 (.var 0) (.var 2)))) (.cons (.bin .or .u64 (.bin .or .u64 (.var 1) (.var 3)) (.bin .xor .u64 (.var 0) (.var 2))) .nil)))
(.call 1 (kKn) .nil 6
(.leaf (.vs 6 2 .nil)))))
(.call 1 (kKn) .nil 5
(.leaf (.vs 5 2 .nil)))))
def sP_qjoin : Spec := ⟨fun k => match k with | 0 => sF_qmay | 1 => sF_qall | _ => fun _ => [], fun k => match k with | _ => fun _ => True⟩
set_option maxRecDepth 100000 in
theorem sR_qjoin : treeIs tys_VqA [sM_qmay 0, sM_qall 1] [] [] 200 Tryz.f61 [.agg kKn, .agg kKn] [.agg kKn] false [.int .u64, .int .u64, .int .u64, .int .u64] sT_qjoin := ⟨by kernel_rfl, by kernel_rfl, by kernel_rfl⟩
set_option maxRecDepth 100000 in
set_option maxHeartbeats 8000000 in
theorem sX_qjoin (a : Kn) (ha : Kn.ok a) (b : Kn) (hb : Kn.ok b) (ρ : Env) (g : varsD ρ 0 [.int .u64, .int .u64, .int .u64, .int .u64] = [.z a.v, .z a.m, .z b.v, .z b.m]) : sT_qjoin.asks sP_qjoin (fun ρ e => e.D ρ = sF_qjoin [.z a.v, .z a.m, .z b.v, .z b.m]) ρ fun _ _ => False := by
  simp only [varsD, varD, List.cons.injEq, Dt.z.injEq, Dt.l.injEq, b2i_eq_iff, Nat.reduceAdd, and_true] at g
  simp only [sT_qjoin, sP_qjoin, kKn, sF_qmay, sF_qall, sV_qmay, sF_qjoin, sV_qjoin, Tr.asks, upd_same, okDs, okD, eqs, E.I, E.B, E.L, E.R, E.D, E.vs, dI, dB, dL, varD, varsD, List.getElem?_cons_zero, List.getElem?_cons_succ, List.cons_append, List.nil_append, Nat.zero_add, Nat.add_zero, Nat.reduceAdd, and_true, true_and, b2i_one, -eq_self, Kn.eta, Pi.eta, Pu.eta, Rg.eta, Sc.eta, Sc.eta_r, Sc.eta_k, Sc.eta_2, g]
  intro e; (try simp only [e, Kn.eta, Pi.eta, Pu.eta, Rg.eta, Sc.eta, Sc.eta_r, Sc.eta_k, Sc.eta_2, -eq_self]); clear e
  refine ⟨fun c0 => ?_, fun c0 => ?_⟩
  intro e; (try simp only [e, Kn.eta, Pi.eta, Pu.eta, Rg.eta, Sc.eta, Sc.eta_r, Sc.eta_k, Sc.eta_2, -eq_self]); clear e
  refine ⟨fun c1 => ?_, fun c1 => ?_⟩
  (unfold kjoin; simp_all [opI, kmask])
  intro e; (try simp only [e, Kn.eta, Pi.eta, Pu.eta, Rg.eta, Sc.eta, Sc.eta_r, Sc.eta_k, Sc.eta_2, -eq_self]); clear e
  (unfold kjoin; simp_all [opI, kmask])
  intro e; (try simp only [e, Kn.eta, Pi.eta, Pu.eta, Rg.eta, Sc.eta, Sc.eta_r, Sc.eta_k, Sc.eta_2, -eq_self]); clear e
  (unfold kjoin; simp_all [opI, kmask])
theorem sK_qjoin {sp : Spec} {key : Nat} (hF : sp.F key = sF_qjoin) (hP : sp.pre key = fun _ => True := by rfl) : SmOk Tryz.prog sp (sM_qjoin key) :=
  fun_ok (s := sM_qjoin key) hF hP (by kernel_rfl) tysok_VqA (smc (sK_qmay rfl) (smc (sK_qall rfl) sm0)) Tryz.func61 sR_qjoin (.inl rfl) (fun x0 gx0 x1 gx1 x2 gx2 x3 gx3 hp ρ g => sX_qjoin ⟨x0, x1⟩ ⟨gx0, gx1⟩ ⟨x2, x3⟩ ⟨gx2, gx3⟩ ρ g)
def sM_qmeet (key : Nat) : Sm := ⟨36, key, [.agg kKn, .agg kKn], [.agg kKn, .one .bool], true⟩
def sV_qmeet (a : Kn) (b : Kn) : List Dt := [.z ((kmeet a b).v), .z ((kmeet a b).m), .z (b2i (kmeets a b))]
def sF_qmeet : List Dt → List Dt
  | [.z x0, .z x1, .z x2, .z x3] => sV_qmeet ⟨x0, x1⟩ ⟨x2, x3⟩
  | _ => []
def sT_qmeet : Tr :=
(.call 0 ([.bool]) (.vs 0 2 .nil) 4
(.br (.bvar 4)
(.call 0 ([.bool]) (.vs 2 2 .nil) 5
(.br (.bvar 5)
(.br (.eq (.bin .andNot .u64 (.bin .xor .u64 (.var 0) (.var 2)) (.bin .or .u64 (.var 1) (.var 3))) (.lit 0))
(.leaf (.cons (.bin .or .u64 (.var 0) (.var 2)) (.cons (.bin .and .u64 (.var 1) (.var 3)) (.consb (.tt true) .nil))))
(.call 1 (kKn) .nil 6
(.leaf (.vs 6 2 (.consb (.tt false) .nil)))))
(.call 1 (kKn) .nil 6
(.leaf (.vs 6 2 (.consb (.tt false) .nil))))))
(.call 1 (kKn) .nil 5
(.leaf (.vs 5 2 (.consb (.tt false) .nil))))))
def sP_qmeet : Spec := ⟨fun k => match k with | 0 => sF_qmay | 1 => sF_qall | _ => fun _ => [], fun k => match k with | _ => fun _ => True⟩
set_option maxRecDepth 100000 in
theorem sR_qmeet : treeIs tys_VqA [sM_qmay 0, sM_qall 1] [] [] 200 Tryz.f36 [.agg kKn, .agg kKn] [.agg kKn, .one .bool] true [.int .u64, .int .u64, .int .u64, .int .u64] sT_qmeet := ⟨by kernel_rfl, by kernel_rfl, by kernel_rfl⟩
set_option maxRecDepth 100000 in
set_option maxHeartbeats 8000000 in
theorem sX_qmeet (a : Kn) (ha : Kn.ok a) (b : Kn) (hb : Kn.ok b) (ρ : Env) (g : varsD ρ 0 [.int .u64, .int .u64, .int .u64, .int .u64] = [.z a.v, .z a.m, .z b.v, .z b.m]) : sT_qmeet.asks sP_qmeet (fun ρ e => e.D ρ = sF_qmeet [.z a.v, .z a.m, .z b.v, .z b.m]) ρ fun _ _ => False := by
  simp only [varsD, varD, List.cons.injEq, Dt.z.injEq, Dt.l.injEq, b2i_eq_iff, Nat.reduceAdd, and_true] at g
  simp only [sT_qmeet, sP_qmeet, kKn, sF_qmay, sF_qall, sV_qmay, sF_qmeet, sV_qmeet, Tr.asks, upd_same, okDs, okD, eqs, E.I, E.B, E.L, E.R, E.D, E.vs, dI, dB, dL, varD, varsD, List.getElem?_cons_zero, List.getElem?_cons_succ, List.cons_append, List.nil_append, Nat.zero_add, Nat.add_zero, Nat.reduceAdd, and_true, true_and, b2i_one, -eq_self, Kn.eta, Pi.eta, Pu.eta, Rg.eta, Sc.eta, Sc.eta_r, Sc.eta_k, Sc.eta_2, g]
  intro e; (try simp only [e, Kn.eta, Pi.eta, Pu.eta, Rg.eta, Sc.eta, Sc.eta_r, Sc.eta_k, Sc.eta_2, -eq_self]); clear e
  refine ⟨fun c0 => ?_, fun c0 => ?_⟩
  intro e; (try simp only [e, Kn.eta, Pi.eta, Pu.eta, Rg.eta, Sc.eta, Sc.eta_r, Sc.eta_k, Sc.eta_2, -eq_self]); clear e
  refine ⟨fun c1 => ?_, fun c1 => ?_⟩
  refine ⟨fun c2 => ?_, fun c2 => ?_⟩
  (rw [kmeet_rmeet]; unfold rmeet kmeets kodds; simp_all [opI])
  intro e; (try simp only [e, Kn.eta, Pi.eta, Pu.eta, Rg.eta, Sc.eta, Sc.eta_r, Sc.eta_k, Sc.eta_2, -eq_self]); clear e
  (rw [kmeet_rmeet]; unfold rmeet kmeets kodds; simp_all [opI])
  intro e; (try simp only [e, Kn.eta, Pi.eta, Pu.eta, Rg.eta, Sc.eta, Sc.eta_r, Sc.eta_k, Sc.eta_2, -eq_self]); clear e
  (rw [kmeet_rmeet]; unfold rmeet kmeets kodds; simp_all [opI])
  intro e; (try simp only [e, Kn.eta, Pi.eta, Pu.eta, Rg.eta, Sc.eta, Sc.eta_r, Sc.eta_k, Sc.eta_2, -eq_self]); clear e
  (rw [kmeet_rmeet]; unfold rmeet kmeets kodds; simp_all [opI])
theorem sK_qmeet {sp : Spec} {key : Nat} (hF : sp.F key = sF_qmeet) (hP : sp.pre key = fun _ => True := by rfl) : SmOk Tryz.prog sp (sM_qmeet key) :=
  fun_ok (s := sM_qmeet key) hF hP (by kernel_rfl) tysok_VqA (smc (sK_qmay rfl) (smc (sK_qall rfl) sm0)) Tryz.func36 sR_qmeet (.inl rfl) (fun x0 gx0 x1 gx1 x2 gx2 x3 gx3 hp ρ g => sX_qmeet ⟨x0, x1⟩ ⟨gx0, gx1⟩ ⟨x2, x3⟩ ⟨gx2, gx3⟩ ρ g)
def sM_qin (key : Nat) : Sm := ⟨65, key, [.agg kKn, .agg kKn], [.one .bool], false⟩
def sV_qin (a : Kn) (b : Kn) : List Dt := [.z (b2i (kin a b))]
def sF_qin : List Dt → List Dt
  | [.z x0, .z x1, .z x2, .z x3] => sV_qin ⟨x0, x1⟩ ⟨x2, x3⟩
  | _ => []
def sT_qin : Tr :=
(.call 0 ([.bool]) (.vs 0 2 .nil) 4
(.br (.bvar 4)
(.call 0 ([.bool]) (.vs 2 2 .nil) 5
(.br (.bvar 5)
(.br (.eq (.bin .andNot .u64 (.var 1) (.var 3)) (.lit 0))
(.leaf (.consb (.eq (.bin .andNot .u64 (.bin .xor .u64 (.var 0) (.var 2)) (.var 3)) (.lit 0)) .nil))
(.leaf (.consb (.tt false) .nil)))
(.leaf (.consb (.tt false) .nil))))
(.leaf (.consb (.tt false) .nil))))
def sP_qin : Spec := ⟨fun k => match k with | 0 => sF_qmay | _ => fun _ => [], fun k => match k with | _ => fun _ => True⟩
set_option maxRecDepth 100000 in
theorem sR_qin : treeIs tys_VqA [sM_qmay 0] [] [] 200 Tryz.f65 [.agg kKn, .agg kKn] [.one .bool] false [.int .u64, .int .u64, .int .u64, .int .u64] sT_qin := ⟨by kernel_rfl, by kernel_rfl, by kernel_rfl⟩
set_option maxRecDepth 100000 in
set_option maxHeartbeats 8000000 in
theorem sX_qin (a : Kn) (ha : Kn.ok a) (b : Kn) (hb : Kn.ok b) (ρ : Env) (g : varsD ρ 0 [.int .u64, .int .u64, .int .u64, .int .u64] = [.z a.v, .z a.m, .z b.v, .z b.m]) : sT_qin.asks sP_qin (fun ρ e => e.D ρ = sF_qin [.z a.v, .z a.m, .z b.v, .z b.m]) ρ fun _ _ => False := by
  simp only [varsD, varD, List.cons.injEq, Dt.z.injEq, Dt.l.injEq, b2i_eq_iff, Nat.reduceAdd, and_true] at g
  simp only [sT_qin, sP_qin, sF_qmay, sV_qmay, sF_qin, sV_qin, Tr.asks, upd_same, okDs, okD, eqs, E.I, E.B, E.L, E.R, E.D, E.vs, dI, dB, dL, varD, varsD, List.getElem?_cons_zero, List.getElem?_cons_succ, List.cons_append, List.nil_append, Nat.zero_add, Nat.add_zero, Nat.reduceAdd, and_true, true_and, b2i_one, -eq_self, Kn.eta, Pi.eta, Pu.eta, Rg.eta, Sc.eta, Sc.eta_r, Sc.eta_k, Sc.eta_2, g]
  intro e; (try simp only [e, Kn.eta, Pi.eta, Pu.eta, Rg.eta, Sc.eta, Sc.eta_r, Sc.eta_k, Sc.eta_2, -eq_self]); clear e
  refine ⟨fun c0 => ?_, fun c0 => ?_⟩
  intro e; (try simp only [e, Kn.eta, Pi.eta, Pu.eta, Rg.eta, Sc.eta, Sc.eta_r, Sc.eta_k, Sc.eta_2, -eq_self]); clear e
  refine ⟨fun c1 => ?_, fun c1 => ?_⟩
  refine ⟨fun c2 => ?_, fun c2 => ?_⟩
  (rw [kin_rin (Kn.wf_of hb)]; unfold rin; simp_all [opI])
  (rw [kin_rin (Kn.wf_of hb)]; unfold rin; simp_all [opI])
  (rw [kin_rin (Kn.wf_of hb)]; unfold rin; simp_all [opI])
  (rw [kin_rin (Kn.wf_of hb)]; unfold rin; simp_all [opI])
theorem sK_qin {sp : Spec} {key : Nat} (hF : sp.F key = sF_qin) (hP : sp.pre key = fun _ => True := by rfl) : SmOk Tryz.prog sp (sM_qin key) :=
  fun_ok (s := sM_qin key) hF hP (by kernel_rfl) tysok_VqA (smc (sK_qmay rfl) sm0) Tryz.func65 sR_qin (.inl rfl) (fun x0 gx0 x1 gx1 x2 gx2 x3 gx3 hp ρ g => sX_qin ⟨x0, x1⟩ ⟨gx0, gx1⟩ ⟨x2, x3⟩ ⟨gx2, gx3⟩ ρ g)
def sM_qcut (key : Nat) : Sm := ⟨51, key, [.agg kKn, .one (.int .i8)], [.agg kKn], false⟩
def sV_qcut (a : Kn) (l : Int) : List Dt := [.z ((kcut a l).v), .z ((kcut a l).m)]
def sF_qcut : List Dt → List Dt
  | [.z x0, .z x1, .z x2] => sV_qcut ⟨x0, x1⟩ x2
  | _ => []
def sT_qcut : Tr :=
(.call 0 ([.bool]) (.vs 0 2 .nil) 3
(.br (.bvar 3)
(.call 2 ([.int .u64]) (.cons (.var 0) (.cons (.var 2) .nil)) 4
(.call 2 ([.int .u64]) (.vs 1 2 .nil) 5
(.leaf (.vs 4 2 .nil))))
(.call 1 (kKn) .nil 4
(.leaf (.vs 4 2 .nil)))))
def sP_qcut : Spec := ⟨fun k => match k with | 0 => sF_qmay | 1 => sF_qall | 2 => sF_rcut | _ => fun _ => [], fun k => match k with | _ => fun _ => True⟩
set_option maxRecDepth 100000 in
theorem sR_qcut : treeIs tys_VqA [sM_qmay 0, sM_qall 1, sM_rcut 2] [] [] 200 Tryz.f51 [.agg kKn, .one (.int .i8)] [.agg kKn] false [.int .u64, .int .u64, .int .i8] sT_qcut := ⟨by kernel_rfl, by kernel_rfl, by kernel_rfl⟩
set_option maxRecDepth 100000 in
set_option maxHeartbeats 8000000 in
theorem sX_qcut (a : Kn) (ha : Kn.ok a) (l : Int) (hl : inK .i8 l = true) (ρ : Env) (g : varsD ρ 0 [.int .u64, .int .u64, .int .i8] = [.z a.v, .z a.m, .z l]) : sT_qcut.asks sP_qcut (fun ρ e => e.D ρ = sF_qcut [.z a.v, .z a.m, .z l]) ρ fun _ _ => False := by
  simp only [varsD, varD, List.cons.injEq, Dt.z.injEq, Dt.l.injEq, b2i_eq_iff, Nat.reduceAdd, and_true] at g
  simp only [sT_qcut, sP_qcut, kKn, sF_qmay, sF_qall, sF_rcut, sV_qmay, sV_rcut, sF_qcut, sV_qcut, Tr.asks, upd_same, okDs, okD, eqs, E.I, E.B, E.L, E.R, E.D, E.vs, dI, dB, dL, varD, varsD, List.getElem?_cons_zero, List.getElem?_cons_succ, List.cons_append, List.nil_append, Nat.zero_add, Nat.add_zero, Nat.reduceAdd, and_true, true_and, b2i_one, -eq_self, Kn.eta, Pi.eta, Pu.eta, Rg.eta, Sc.eta, Sc.eta_r, Sc.eta_k, Sc.eta_2, g]
  intro e; (try simp only [e, Kn.eta, Pi.eta, Pu.eta, Rg.eta, Sc.eta, Sc.eta_r, Sc.eta_k, Sc.eta_2, -eq_self]); clear e
  refine ⟨fun c0 => ?_, fun c0 => ?_⟩
  intro e; (try simp only [e, Kn.eta, Pi.eta, Pu.eta, Rg.eta, Sc.eta, Sc.eta_r, Sc.eta_k, Sc.eta_2, -eq_self]); clear e
  intro e; (try simp only [e, Kn.eta, Pi.eta, Pu.eta, Rg.eta, Sc.eta, Sc.eta_r, Sc.eta_k, Sc.eta_2, -eq_self]); clear e
  (unfold kcut; simp_all)
  intro e; (try simp only [e, Kn.eta, Pi.eta, Pu.eta, Rg.eta, Sc.eta, Sc.eta_r, Sc.eta_k, Sc.eta_2, -eq_self]); clear e
  (unfold kcut; simp_all)
theorem sK_qcut {sp : Spec} {key : Nat} (hF : sp.F key = sF_qcut) (hP : sp.pre key = fun _ => True := by rfl) : SmOk Tryz.prog sp (sM_qcut key) :=
  fun_ok (s := sM_qcut key) hF hP (by kernel_rfl) tysok_VqA (smc (sK_qmay rfl) (smc (sK_qall rfl) (smc (sK_rcut rfl) sm0))) Tryz.func51 sR_qcut (.inl rfl) (fun x0 gx0 x1 gx1 x2 gx2 hp ρ g => sX_qcut ⟨x0, x1⟩ ⟨gx0, gx1⟩ x2 gx2 ρ g)
def sM_qadd (key : Nat) : Sm := ⟨125, key, [.agg kKn, .agg kKn], [.agg kKn], false⟩
def sV_qadd (a : Kn) (b : Kn) : List Dt := [.z ((kadd a b).v), .z ((kadd a b).m)]
def sF_qadd : List Dt → List Dt
  | [.z x0, .z x1, .z x2, .z x3] => sV_qadd ⟨x0, x1⟩ ⟨x2, x3⟩
  | _ => []
def sT_qadd : Tr :=
(.leaf (.cons (.bin .andNot .u64 (.bin .add .u64 (.var 0) (.var 2)) (.bin .or .u64 (.bin .or .u64 (.bin .xor .u64 (.bin .add .u64 (.bin .add .u64 (.var 1) (.var 3)) (.bin .add .u64 (.var 0) (.var 2))) (.bin .add .u64 (.var 0) (.var 2))) (.var 1)) (.var 3))) (.cons (.bin .or .u64 (.bin .or .u64 (.bin .xor .u64 (.bin .add .u64 (.bin .add .u64 (.var 1) (.var 3)) (.bin .add .u64 (.var 0) (.var 2))) (.bin .add .u64 (.var 0) (.var 2))) (.var 1)) (.var 3)) .nil)))
def sP_qadd : Spec := ⟨fun k => match k with | _ => fun _ => [], fun k => match k with | _ => fun _ => True⟩
set_option maxRecDepth 100000 in
theorem sR_qadd : treeIs tys_VqA [] [] [] 200 Tryz.f125 [.agg kKn, .agg kKn] [.agg kKn] false [.int .u64, .int .u64, .int .u64, .int .u64] sT_qadd := ⟨by kernel_rfl, by kernel_rfl, by kernel_rfl⟩
set_option maxRecDepth 100000 in
set_option maxHeartbeats 8000000 in
theorem sX_qadd (a : Kn) (ha : Kn.ok a) (b : Kn) (hb : Kn.ok b) (ρ : Env) (g : varsD ρ 0 [.int .u64, .int .u64, .int .u64, .int .u64] = [.z a.v, .z a.m, .z b.v, .z b.m]) : sT_qadd.asks sP_qadd (fun ρ e => e.D ρ = sF_qadd [.z a.v, .z a.m, .z b.v, .z b.m]) ρ fun _ _ => False := by
  simp only [varsD, varD, List.cons.injEq, Dt.z.injEq, Dt.l.injEq, b2i_eq_iff, Nat.reduceAdd, and_true] at g
  simp only [sT_qadd, sP_qadd, sF_qadd, sV_qadd, Tr.asks, upd_same, okDs, okD, eqs, E.I, E.B, E.L, E.R, E.D, E.vs, dI, dB, dL, varD, varsD, List.getElem?_cons_zero, List.getElem?_cons_succ, List.cons_append, List.nil_append, Nat.zero_add, Nat.add_zero, Nat.reduceAdd, and_true, true_and, b2i_one, -eq_self, Kn.eta, Sc.eta_r, Sc.eta_k, Sc.eta_2, g]
  (rw [← radd_eq]; rfl)
theorem sK_qadd {sp : Spec} {key : Nat} (hF : sp.F key = sF_qadd) (hP : sp.pre key = fun _ => True := by rfl) : SmOk Tryz.prog sp (sM_qadd key) :=
  fun_ok (s := sM_qadd key) hF hP (by kernel_rfl) tysok_VqA (sm0) Tryz.func125 sR_qadd (.inl rfl) (fun x0 gx0 x1 gx1 x2 gx2 x3 gx3 hp ρ g => sX_qadd ⟨x0, x1⟩ ⟨gx0, gx1⟩ ⟨x2, x3⟩ ⟨gx2, gx3⟩ ρ g)
def sM_qsub (key : Nat) : Sm := ⟨126, key, [.agg kKn, .agg kKn], [.agg kKn], false⟩
def sV_qsub (a : Kn) (b : Kn) : List Dt := [.z ((ksub a b).v), .z ((ksub a b).m)]
def sF_qsub : List Dt → List Dt
  | [.z x0, .z x1, .z x2, .z x3] => sV_qsub ⟨x0, x1⟩ ⟨x2, x3⟩
  | _ => []
def sT_qsub : Tr :=
(.leaf (.cons (.bin .andNot .u64 (.bin .sub .u64 (.var 0) (.var 2)) (.bin .or .u64 (.bin .or .u64 (.bin .xor .u64 (.bin .add .u64 (.bin .sub .u64 (.var 0) (.var 2)) (.var 1)) (.bin .sub .u64 (.bin .sub .u64 (.var 0) (.var 2)) (.var 3))) (.var 1)) (.var 3))) (.cons (.bin .or .u64 (.bin .or .u64 (.bin .xor .u64 (.bin .add .u64 (.bin .sub .u64 (.var 0) (.var 2)) (.var 1)) (.bin .sub .u64 (.bin .sub .u64 (.var 0) (.var 2)) (.var 3))) (.var 1)) (.var 3)) .nil)))
def sP_qsub : Spec := ⟨fun k => match k with | _ => fun _ => [], fun k => match k with | _ => fun _ => True⟩
set_option maxRecDepth 100000 in
theorem sR_qsub : treeIs tys_VqA [] [] [] 200 Tryz.f126 [.agg kKn, .agg kKn] [.agg kKn] false [.int .u64, .int .u64, .int .u64, .int .u64] sT_qsub := ⟨by kernel_rfl, by kernel_rfl, by kernel_rfl⟩
set_option maxRecDepth 100000 in
set_option maxHeartbeats 8000000 in
theorem sX_qsub (a : Kn) (ha : Kn.ok a) (b : Kn) (hb : Kn.ok b) (ρ : Env) (g : varsD ρ 0 [.int .u64, .int .u64, .int .u64, .int .u64] = [.z a.v, .z a.m, .z b.v, .z b.m]) : sT_qsub.asks sP_qsub (fun ρ e => e.D ρ = sF_qsub [.z a.v, .z a.m, .z b.v, .z b.m]) ρ fun _ _ => False := by
  simp only [varsD, varD, List.cons.injEq, Dt.z.injEq, Dt.l.injEq, b2i_eq_iff, Nat.reduceAdd, and_true] at g
  simp only [sT_qsub, sP_qsub, sF_qsub, sV_qsub, Tr.asks, upd_same, okDs, okD, eqs, E.I, E.B, E.L, E.R, E.D, E.vs, dI, dB, dL, varD, varsD, List.getElem?_cons_zero, List.getElem?_cons_succ, List.cons_append, List.nil_append, Nat.zero_add, Nat.add_zero, Nat.reduceAdd, and_true, true_and, b2i_one, -eq_self, Kn.eta, Sc.eta_r, Sc.eta_k, Sc.eta_2, g]
  rfl
theorem sK_qsub {sp : Spec} {key : Nat} (hF : sp.F key = sF_qsub) (hP : sp.pre key = fun _ => True := by rfl) : SmOk Tryz.prog sp (sM_qsub key) :=
  fun_ok (s := sM_qsub key) hF hP (by kernel_rfl) tysok_VqA (sm0) Tryz.func126 sR_qsub (.inl rfl) (fun x0 gx0 x1 gx1 x2 gx2 x3 gx3 hp ρ g => sX_qsub ⟨x0, x1⟩ ⟨gx0, gx1⟩ ⟨x2, x3⟩ ⟨gx2, gx3⟩ ρ g)
def sM_qshift (key : Nat) : Sm := ⟨127, key, [.one (.int .i8), .one (.int .i8), .agg kKn, .agg kKn], [.agg kKn, .one .bool], true⟩
def sV_qshift (op : Int) (l : Int) (a : Kn) (b : Kn) : List Dt := [.z ((kshv op l a b).v), .z ((kshv op l a b).m), .z (b2i (kshok l b))]
def sF_qshift : List Dt → List Dt
  | [.z x0, .z x1, .z x2, .z x3, .z x4, .z x5] => sV_qshift x0 x1 ⟨x2, x3⟩ ⟨x4, x5⟩
  | _ => []
def sT_qshift : Tr :=
(.br (.eq (.bin .and .u64 (.var 5) (.bin .sub .u64 (.conv .u64 (.var 1)) (.lit 1))) (.lit 0))
(.call 0 ([.int .u64] ++ [.int .i64]) (.vs 0 3 (.cons (.bin .and .u64 (.var 4) (.bin .sub .u64 (.conv .u64 (.var 1)) (.lit 1))) .nil)) 6
(.call 0 ([.int .u64] ++ [.int .i64]) (.vs 0 2 (.cons (.var 3) (.cons (.bin .and .u64 (.var 4) (.bin .sub .u64 (.conv .u64 (.var 1)) (.lit 1))) .nil))) 8
(.leaf (.cons (.bin .andNot .u64 (.var 6) (.var 8)) (.cons (.var 8) (.consb (.tt true) .nil))))))
(.leaf (.cons (.lit 0) (.cons (.lit 0) (.consb (.tt false) .nil)))))
def sP_qshift : Spec := ⟨fun k => match k with | 0 => sF_rbits | _ => fun _ => [], fun k => match k with | _ => fun _ => True⟩
set_option maxRecDepth 100000 in
theorem sR_qshift : treeIs tys_VqA [sM_rbits 0] [] [] 200 Tryz.f127 [.one (.int .i8), .one (.int .i8), .agg kKn, .agg kKn] [.agg kKn, .one .bool] true [.int .i8, .int .i8, .int .u64, .int .u64, .int .u64, .int .u64] sT_qshift := ⟨by kernel_rfl, by kernel_rfl, by kernel_rfl⟩
set_option maxRecDepth 100000 in
set_option maxHeartbeats 8000000 in
theorem sX_qshift (op : Int) (hop : inK .i8 op = true) (l : Int) (hl : inK .i8 l = true) (a : Kn) (ha : Kn.ok a) (b : Kn) (hb : Kn.ok b) (ρ : Env) (g : varsD ρ 0 [.int .i8, .int .i8, .int .u64, .int .u64, .int .u64, .int .u64] = [.z op, .z l, .z a.v, .z a.m, .z b.v, .z b.m]) : sT_qshift.asks sP_qshift (fun ρ e => e.D ρ = sF_qshift [.z op, .z l, .z a.v, .z a.m, .z b.v, .z b.m]) ρ fun _ _ => False := by
  simp only [varsD, varD, List.cons.injEq, Dt.z.injEq, Dt.l.injEq, b2i_eq_iff, Nat.reduceAdd, and_true] at g
  simp only [sT_qshift, sP_qshift, sF_rbits, sV_rbits, sF_qshift, sV_qshift, Tr.asks, upd_same, okDs, okD, eqs, E.I, E.B, E.L, E.R, E.D, E.vs, dI, dB, dL, varD, varsD, List.getElem?_cons_zero, List.getElem?_cons_succ, List.cons_append, List.nil_append, Nat.zero_add, Nat.add_zero, Nat.reduceAdd, and_true, true_and, b2i_one, -eq_self, Kn.eta, Pi.eta, Pu.eta, Rg.eta, Sc.eta, Sc.eta_r, Sc.eta_k, Sc.eta_2, g]
  refine ⟨fun c0 => ?_, fun c0 => ?_⟩
  intro e; (try simp only [e, Kn.eta, Pi.eta, Pu.eta, Rg.eta, Sc.eta, Sc.eta_r, Sc.eta_k, Sc.eta_2, -eq_self]); clear e
  intro e; (try simp only [e, Kn.eta, Pi.eta, Pu.eta, Rg.eta, Sc.eta, Sc.eta_r, Sc.eta_k, Sc.eta_2, -eq_self]); clear e
  (have q : kshok l b = true := c0; rw [q]; unfold kshv; rw [q]; rfl)
  (have q : kshok l b = false := c0; rw [q]; unfold kshv; rw [q]; rfl)
theorem sK_qshift {sp : Spec} {key : Nat} (hF : sp.F key = sF_qshift) (hP : sp.pre key = fun _ => True := by rfl) : SmOk Tryz.prog sp (sM_qshift key) :=
  fun_ok (s := sM_qshift key) hF hP (by kernel_rfl) tysok_VqA (smc (sK_rbits rfl) sm0) Tryz.func127 sR_qshift (.inl rfl) (fun x0 gx0 x1 gx1 x2 gx2 x3 gx3 x4 gx4 x5 gx5 hp ρ g => sX_qshift x0 gx0 x1 gx1 ⟨x2, x3⟩ ⟨gx2, gx3⟩ ⟨x4, x5⟩ ⟨gx4, gx5⟩ ρ g)
def sM_qcom (key : Nat) : Sm := ⟨89, key, [.one (.int .u64), .one (.int .u64)], [.agg kKn], false⟩
def sV_qcom (x : Int) (y : Int) : List Dt := [.z ((kcommon x y).v), .z ((kcommon x y).m)]
def sF_qcom : List Dt → List Dt
  | [.z x0, .z x1] => sV_qcom x0 x1
  | _ => []
def sT_qcom : Tr :=
(.br (.lt (.var 1) (.var 0))
(.call 0 (kKn) .nil 2
(.leaf (.vs 2 2 .nil)))
(.loop 0 2 [.int .u64] (.cons (.lit 0) .nil)
(.br (.eq (.bin .andNot .u64 (.bin .xor .u64 (.var 0) (.var 1)) (.var 2)) (.lit 0))
(.leaf (.cons (.bin .andNot .u64 (.var 0) (.var 2)) (.cons (.var 2) .nil)))
(.next 0 (.cons (.bin .or .u64 (.bin .shl .u64 (.var 2) (.lit 1)) (.lit 1)) .nil)))))
def sP_qcom : Spec := ⟨fun k => match k with | 0 => sF_qall | _ => fun _ => [], fun k => match k with | _ => fun _ => True⟩
set_option maxRecDepth 100000 in
theorem sR_qcom : treeIs tys_VqA [sM_qall 0] [(4, [.tmpI 5 .u64, .top 10, .top 11, .top 12, .top 13, .top 14, .top 15, .top 16, .top 17, .top 18])] [] 200 Tryz.f89 [.one (.int .u64), .one (.int .u64)] [.agg kKn] false [.int .u64, .int .u64] sT_qcom := ⟨by kernel_rfl, by kernel_rfl, by kernel_rfl⟩
set_option maxRecDepth 100000 in
set_option maxHeartbeats 8000000 in
theorem sX_qcom (x : Int) (hx : inK .u64 x = true) (y : Int) (hy : inK .u64 y = true) (ρ : Env) (g : varsD ρ 0 [.int .u64, .int .u64] = [.z x, .z y]) : sT_qcom.asks sP_qcom (fun ρ e => e.D ρ = sF_qcom [.z x, .z y]) ρ fun _ _ => False := by
  simp only [varsD, varD, List.cons.injEq, Dt.z.injEq, Dt.l.injEq, b2i_eq_iff, Nat.reduceAdd, and_true] at g
  simp only [sT_qcom, sP_qcom, kKn, sF_qall, sF_qcom, sV_qcom, Tr.asks, upd_same, okDs, okD, eqs, E.I, E.B, E.L, E.R, E.D, E.vs, dI, dB, dL, varD, varsD, List.getElem?_cons_zero, List.getElem?_cons_succ, List.cons_append, List.nil_append, Nat.zero_add, Nat.add_zero, Nat.reduceAdd, and_true, true_and, b2i_one, -eq_self, Kn.eta, Pi.eta, Pu.eta, Rg.eta, Sc.eta, Sc.eta_r, Sc.eta_k, Sc.eta_2, g]
  refine ⟨fun c0 => ?_, fun c0 => ?_⟩
  intro e; (try simp only [e, Kn.eta, Pi.eta, Pu.eta, Rg.eta, Sc.eta, Sc.eta_r, Sc.eta_k, Sc.eta_2, -eq_self]); clear e
  exact agg_Kn (by unfold kcommon; rw [if_pos (of_decide_eq_true c0)])
  refine ⟨fun ds => ∃ n : Nat, ds = [.z (2 ^ n - 1)] ∧ n ≤ 64 ∧ kcn x y = cfrom x y (64 - n) n, fun ds => (18446744073709551616 - dI ds 0).toNat, ⟨0, rfl, by omega, rfl⟩, ?_⟩
  intro ρ' ag ok hi
  obtain ⟨n, hd, hn, hk⟩ := hi
  simp only [List.cons.injEq, Dt.z.injEq, and_true] at hd
  have hdf := diff_iff x y n hn (inK_u64 hx).1 (inK_u64 hx).2 (inK_u64 hy).1 (inK_u64 hy).2
  simp only [hd, ← (ag 0 (by decide)).1, ← (ag 1 (by decide)).1, g, dI, List.getElem?_cons_zero, -eq_self]
  clear ok ag
  refine ⟨fun c1 => ?_, fun c1 => ?_⟩
  (refine agg_Kn (r := kmask x (2 ^ n - 1)) ?_; unfold kcommon; rw [if_neg (of_decide_eq_false c0), cfrom_at hn hk (hdf.1 (eqz c1))])
  have he : ¬ x / 2 ^ n = y / 2 ^ n := fun h => nez c1 (hdf.2 h)
  have bx := inK_u64 hx
  have by_ := inK_u64 hy
  have hlt : n < 64 := Nat.lt_of_le_of_ne hn (fun h => he (by subst h; omega))
  have hs : opI .or .u64 (opI .shl .u64 (2 ^ n - 1) 1) 1 = 2 ^ (n + 1) - 1 := mask_step n hlt
  rw [hs]
  refine ⟨⟨n + 1, rfl, by omega, cfrom_next hlt hk he⟩, ?_⟩
  have h6 := pow_bd0 hn
  have h7 := pow_bd0 (n := n + 1) (by omega)
  have h8 : (2 : Int) ^ (n + 1) = 2 ^ n * 2 := Int.pow_succ 2 n
  rw [h8] at h7 ⊢
  generalize (2 : Int) ^ n = p at *
  omega
theorem sK_qcom {sp : Spec} {key : Nat} (hF : sp.F key = sF_qcom) (hP : sp.pre key = fun _ => True := by rfl) : SmOk Tryz.prog sp (sM_qcom key) :=
  fun_ok (s := sM_qcom key) hF hP (by kernel_rfl) tysok_VqA (smc (sK_qall rfl) sm0) Tryz.func89 sR_qcom (.inl rfl) (fun x0 gx0 x1 gx1 hp ρ g => sX_qcom x0 gx0 x1 gx1 ρ g)
def sM_qdo (key : Nat) : Sm := ⟨74, key, [.one (.int .i8), .one (.int .i8), .agg kKn, .agg kKn], [.agg kKn], false⟩
def sV_qdo (op : Int) (l : Int) (a : Kn) (b : Kn) : List Dt := [.z ((kdo op l a b).v), .z ((kdo op l a b).m)]
def sF_qdo : List Dt → List Dt
  | [.z x0, .z x1, .z x2, .z x3, .z x4, .z x5] => sV_qdo x0 x1 ⟨x2, x3⟩ ⟨x4, x5⟩
  | _ => []
def sT_qdo : Tr :=
(.call 0 ([.bool]) (.vs 2 2 .nil) 6
(.br (.bvar 6)
(.call 0 ([.bool]) (.vs 4 2 .nil) 7
(.br (.bvar 7)
(.br (.lt (.var 0) (.lit 0))
(.call 1 (kKn) .nil 8
(.leaf (.vs 8 2 .nil)))
(.br (.lt (.lit 12) (.var 0))
(.call 1 (kKn) .nil 8
(.leaf (.vs 8 2 .nil)))
(.br (.eq (.var 1) (.lit 32))
(.call 2 (kKn) (.vs 2 2 (.cons (.var 1) .nil)) 8
(.call 2 (kKn) (.vs 4 2 (.cons (.var 1) .nil)) 10
(.br (.eq (.var 9) (.lit 0))
(.br (.eq (.var 11) (.lit 0))
(.call 3 ([.int .u64] ++ [.int .i64]) (.vs 0 2 (.cons (.var 8) (.cons (.var 10) .nil))) 12
(.call 4 (kKn) (.cons (.var 12) .nil) 14
(.leaf (.vs 14 2 .nil))))
(.call 1 (kKn) .nil 12
(.br (.eq (.var 0) (.lit 11))
(.call 2 (kKn) (.vs 10 2 (.cons (.var 1) .nil)) 14
(.leaf (.vs 14 2 .nil)))
(.br (.eq (.var 0) (.lit 5))
(.call 2 (kKn) (.cons (.bin .and .u64 (.var 8) (.var 10)) (.cons (.bin .andNot .u64 (.bin .and .u64 (.bin .or .u64 (.var 8) (.var 9)) (.bin .or .u64 (.var 10) (.var 11))) (.bin .and .u64 (.var 8) (.var 10))) (.cons (.var 1) .nil))) 14
(.leaf (.vs 14 2 .nil)))
(.br (.eq (.var 0) (.lit 4))
(.call 2 (kKn) (.cons (.bin .or .u64 (.var 8) (.var 10)) (.cons (.bin .andNot .u64 (.bin .or .u64 (.var 9) (.var 11)) (.bin .or .u64 (.var 8) (.var 10))) (.cons (.var 1) .nil))) 14
(.leaf (.vs 14 2 .nil)))
(.br (.eq (.var 0) (.lit 10))
(.call 2 (kKn) (.cons (.bin .andNot .u64 (.bin .xor .u64 (.var 8) (.var 10)) (.bin .or .u64 (.var 9) (.var 11))) (.cons (.bin .or .u64 (.var 9) (.var 11)) (.cons (.var 1) .nil))) 14
(.leaf (.vs 14 2 .nil)))
(.br (.eq (.var 0) (.lit 0))
(.call 5 (kKn) (.vs 8 4 .nil) 14
(.call 2 (kKn) (.vs 14 2 (.cons (.var 1) .nil)) 16
(.leaf (.vs 16 2 .nil))))
(.br (.eq (.var 0) (.lit 1))
(.call 6 (kKn) (.vs 8 4 .nil) 14
(.call 2 (kKn) (.vs 14 2 (.cons (.var 1) .nil)) 16
(.leaf (.vs 16 2 .nil))))
(.br (.eq (.var 0) (.lit 8))
(.call 4 (kKn) (.cons (.lit 0) .nil) 14
(.call 6 (kKn) (.vs 14 2 (.vs 8 2 .nil)) 16
(.call 2 (kKn) (.vs 16 2 (.cons (.var 1) .nil)) 18
(.leaf (.vs 18 2 .nil)))))
(.br (.eq (.var 0) (.lit 6))
(.call 7 (kKn ++ [.bool]) (.vs 0 2 (.vs 8 4 .nil)) 14
(.br (.bvar 16)
(.call 2 (kKn) (.vs 14 2 (.cons (.var 1) .nil)) 17
(.leaf (.vs 17 2 .nil)))
(.call 2 (kKn) (.vs 12 2 (.cons (.var 1) .nil)) 17
(.leaf (.vs 17 2 .nil)))))
(.br (.eq (.var 0) (.lit 7))
(.call 7 (kKn ++ [.bool]) (.vs 0 2 (.vs 8 4 .nil)) 14
(.br (.bvar 16)
(.call 2 (kKn) (.vs 14 2 (.cons (.var 1) .nil)) 17
(.leaf (.vs 17 2 .nil)))
(.call 2 (kKn) (.vs 12 2 (.cons (.var 1) .nil)) 17
(.leaf (.vs 17 2 .nil)))))
(.br (.eq (.var 0) (.lit 12))
(.call 7 (kKn ++ [.bool]) (.vs 0 2 (.vs 8 4 .nil)) 14
(.br (.bvar 16)
(.call 2 (kKn) (.vs 14 2 (.cons (.var 1) .nil)) 17
(.leaf (.vs 17 2 .nil)))
(.call 2 (kKn) (.vs 12 2 (.cons (.var 1) .nil)) 17
(.leaf (.vs 17 2 .nil)))))
(.call 2 (kKn) (.vs 12 2 (.cons (.var 1) .nil)) 14
(.leaf (.vs 14 2 .nil)))))))))))))))
(.call 1 (kKn) .nil 12
(.br (.eq (.var 0) (.lit 11))
(.call 2 (kKn) (.vs 10 2 (.cons (.var 1) .nil)) 14
(.leaf (.vs 14 2 .nil)))
(.br (.eq (.var 0) (.lit 5))
(.call 2 (kKn) (.cons (.bin .and .u64 (.var 8) (.var 10)) (.cons (.bin .andNot .u64 (.bin .and .u64 (.bin .or .u64 (.var 8) (.var 9)) (.bin .or .u64 (.var 10) (.var 11))) (.bin .and .u64 (.var 8) (.var 10))) (.cons (.var 1) .nil))) 14
(.leaf (.vs 14 2 .nil)))
(.br (.eq (.var 0) (.lit 4))
(.call 2 (kKn) (.cons (.bin .or .u64 (.var 8) (.var 10)) (.cons (.bin .andNot .u64 (.bin .or .u64 (.var 9) (.var 11)) (.bin .or .u64 (.var 8) (.var 10))) (.cons (.var 1) .nil))) 14
(.leaf (.vs 14 2 .nil)))
(.br (.eq (.var 0) (.lit 10))
(.call 2 (kKn) (.cons (.bin .andNot .u64 (.bin .xor .u64 (.var 8) (.var 10)) (.bin .or .u64 (.var 9) (.var 11))) (.cons (.bin .or .u64 (.var 9) (.var 11)) (.cons (.var 1) .nil))) 14
(.leaf (.vs 14 2 .nil)))
(.br (.eq (.var 0) (.lit 0))
(.call 5 (kKn) (.vs 8 4 .nil) 14
(.call 2 (kKn) (.vs 14 2 (.cons (.var 1) .nil)) 16
(.leaf (.vs 16 2 .nil))))
(.br (.eq (.var 0) (.lit 1))
(.call 6 (kKn) (.vs 8 4 .nil) 14
(.call 2 (kKn) (.vs 14 2 (.cons (.var 1) .nil)) 16
(.leaf (.vs 16 2 .nil))))
(.br (.eq (.var 0) (.lit 8))
(.call 4 (kKn) (.cons (.lit 0) .nil) 14
(.call 6 (kKn) (.vs 14 2 (.vs 8 2 .nil)) 16
(.call 2 (kKn) (.vs 16 2 (.cons (.var 1) .nil)) 18
(.leaf (.vs 18 2 .nil)))))
(.br (.eq (.var 0) (.lit 6))
(.call 7 (kKn ++ [.bool]) (.vs 0 2 (.vs 8 4 .nil)) 14
(.br (.bvar 16)
(.call 2 (kKn) (.vs 14 2 (.cons (.var 1) .nil)) 17
(.leaf (.vs 17 2 .nil)))
(.call 2 (kKn) (.vs 12 2 (.cons (.var 1) .nil)) 17
(.leaf (.vs 17 2 .nil)))))
(.br (.eq (.var 0) (.lit 7))
(.call 7 (kKn ++ [.bool]) (.vs 0 2 (.vs 8 4 .nil)) 14
(.br (.bvar 16)
(.call 2 (kKn) (.vs 14 2 (.cons (.var 1) .nil)) 17
(.leaf (.vs 17 2 .nil)))
(.call 2 (kKn) (.vs 12 2 (.cons (.var 1) .nil)) 17
(.leaf (.vs 17 2 .nil)))))
(.br (.eq (.var 0) (.lit 12))
(.call 7 (kKn ++ [.bool]) (.vs 0 2 (.vs 8 4 .nil)) 14
(.br (.bvar 16)
(.call 2 (kKn) (.vs 14 2 (.cons (.var 1) .nil)) 17
(.leaf (.vs 17 2 .nil)))
(.call 2 (kKn) (.vs 12 2 (.cons (.var 1) .nil)) 17
(.leaf (.vs 17 2 .nil)))))
(.call 2 (kKn) (.vs 12 2 (.cons (.var 1) .nil)) 14
(.leaf (.vs 14 2 .nil)))))))))))))))))
(.br (.eq (.var 1) (.lit 64))
(.call 2 (kKn) (.vs 2 2 (.cons (.var 1) .nil)) 8
(.call 2 (kKn) (.vs 4 2 (.cons (.var 1) .nil)) 10
(.br (.eq (.var 9) (.lit 0))
(.br (.eq (.var 11) (.lit 0))
(.call 3 ([.int .u64] ++ [.int .i64]) (.vs 0 2 (.cons (.var 8) (.cons (.var 10) .nil))) 12
(.call 4 (kKn) (.cons (.var 12) .nil) 14
(.leaf (.vs 14 2 .nil))))
(.call 1 (kKn) .nil 12
(.br (.eq (.var 0) (.lit 11))
(.call 2 (kKn) (.vs 10 2 (.cons (.var 1) .nil)) 14
(.leaf (.vs 14 2 .nil)))
(.br (.eq (.var 0) (.lit 5))
(.call 2 (kKn) (.cons (.bin .and .u64 (.var 8) (.var 10)) (.cons (.bin .andNot .u64 (.bin .and .u64 (.bin .or .u64 (.var 8) (.var 9)) (.bin .or .u64 (.var 10) (.var 11))) (.bin .and .u64 (.var 8) (.var 10))) (.cons (.var 1) .nil))) 14
(.leaf (.vs 14 2 .nil)))
(.br (.eq (.var 0) (.lit 4))
(.call 2 (kKn) (.cons (.bin .or .u64 (.var 8) (.var 10)) (.cons (.bin .andNot .u64 (.bin .or .u64 (.var 9) (.var 11)) (.bin .or .u64 (.var 8) (.var 10))) (.cons (.var 1) .nil))) 14
(.leaf (.vs 14 2 .nil)))
(.br (.eq (.var 0) (.lit 10))
(.call 2 (kKn) (.cons (.bin .andNot .u64 (.bin .xor .u64 (.var 8) (.var 10)) (.bin .or .u64 (.var 9) (.var 11))) (.cons (.bin .or .u64 (.var 9) (.var 11)) (.cons (.var 1) .nil))) 14
(.leaf (.vs 14 2 .nil)))
(.br (.eq (.var 0) (.lit 0))
(.call 5 (kKn) (.vs 8 4 .nil) 14
(.call 2 (kKn) (.vs 14 2 (.cons (.var 1) .nil)) 16
(.leaf (.vs 16 2 .nil))))
(.br (.eq (.var 0) (.lit 1))
(.call 6 (kKn) (.vs 8 4 .nil) 14
(.call 2 (kKn) (.vs 14 2 (.cons (.var 1) .nil)) 16
(.leaf (.vs 16 2 .nil))))
(.br (.eq (.var 0) (.lit 8))
(.call 4 (kKn) (.cons (.lit 0) .nil) 14
(.call 6 (kKn) (.vs 14 2 (.vs 8 2 .nil)) 16
(.call 2 (kKn) (.vs 16 2 (.cons (.var 1) .nil)) 18
(.leaf (.vs 18 2 .nil)))))
(.br (.eq (.var 0) (.lit 6))
(.call 7 (kKn ++ [.bool]) (.vs 0 2 (.vs 8 4 .nil)) 14
(.br (.bvar 16)
(.call 2 (kKn) (.vs 14 2 (.cons (.var 1) .nil)) 17
(.leaf (.vs 17 2 .nil)))
(.call 2 (kKn) (.vs 12 2 (.cons (.var 1) .nil)) 17
(.leaf (.vs 17 2 .nil)))))
(.br (.eq (.var 0) (.lit 7))
(.call 7 (kKn ++ [.bool]) (.vs 0 2 (.vs 8 4 .nil)) 14
(.br (.bvar 16)
(.call 2 (kKn) (.vs 14 2 (.cons (.var 1) .nil)) 17
(.leaf (.vs 17 2 .nil)))
(.call 2 (kKn) (.vs 12 2 (.cons (.var 1) .nil)) 17
(.leaf (.vs 17 2 .nil)))))
(.br (.eq (.var 0) (.lit 12))
(.call 7 (kKn ++ [.bool]) (.vs 0 2 (.vs 8 4 .nil)) 14
(.br (.bvar 16)
(.call 2 (kKn) (.vs 14 2 (.cons (.var 1) .nil)) 17
(.leaf (.vs 17 2 .nil)))
(.call 2 (kKn) (.vs 12 2 (.cons (.var 1) .nil)) 17
(.leaf (.vs 17 2 .nil)))))
(.call 2 (kKn) (.vs 12 2 (.cons (.var 1) .nil)) 14
(.leaf (.vs 14 2 .nil)))))))))))))))
(.call 1 (kKn) .nil 12
(.br (.eq (.var 0) (.lit 11))
(.call 2 (kKn) (.vs 10 2 (.cons (.var 1) .nil)) 14
(.leaf (.vs 14 2 .nil)))
(.br (.eq (.var 0) (.lit 5))
(.call 2 (kKn) (.cons (.bin .and .u64 (.var 8) (.var 10)) (.cons (.bin .andNot .u64 (.bin .and .u64 (.bin .or .u64 (.var 8) (.var 9)) (.bin .or .u64 (.var 10) (.var 11))) (.bin .and .u64 (.var 8) (.var 10))) (.cons (.var 1) .nil))) 14
(.leaf (.vs 14 2 .nil)))
(.br (.eq (.var 0) (.lit 4))
(.call 2 (kKn) (.cons (.bin .or .u64 (.var 8) (.var 10)) (.cons (.bin .andNot .u64 (.bin .or .u64 (.var 9) (.var 11)) (.bin .or .u64 (.var 8) (.var 10))) (.cons (.var 1) .nil))) 14
(.leaf (.vs 14 2 .nil)))
(.br (.eq (.var 0) (.lit 10))
(.call 2 (kKn) (.cons (.bin .andNot .u64 (.bin .xor .u64 (.var 8) (.var 10)) (.bin .or .u64 (.var 9) (.var 11))) (.cons (.bin .or .u64 (.var 9) (.var 11)) (.cons (.var 1) .nil))) 14
(.leaf (.vs 14 2 .nil)))
(.br (.eq (.var 0) (.lit 0))
(.call 5 (kKn) (.vs 8 4 .nil) 14
(.call 2 (kKn) (.vs 14 2 (.cons (.var 1) .nil)) 16
(.leaf (.vs 16 2 .nil))))
(.br (.eq (.var 0) (.lit 1))
(.call 6 (kKn) (.vs 8 4 .nil) 14
(.call 2 (kKn) (.vs 14 2 (.cons (.var 1) .nil)) 16
(.leaf (.vs 16 2 .nil))))
(.br (.eq (.var 0) (.lit 8))
(.call 4 (kKn) (.cons (.lit 0) .nil) 14
(.call 6 (kKn) (.vs 14 2 (.vs 8 2 .nil)) 16
(.call 2 (kKn) (.vs 16 2 (.cons (.var 1) .nil)) 18
(.leaf (.vs 18 2 .nil)))))
(.br (.eq (.var 0) (.lit 6))
(.call 7 (kKn ++ [.bool]) (.vs 0 2 (.vs 8 4 .nil)) 14
(.br (.bvar 16)
(.call 2 (kKn) (.vs 14 2 (.cons (.var 1) .nil)) 17
(.leaf (.vs 17 2 .nil)))
(.call 2 (kKn) (.vs 12 2 (.cons (.var 1) .nil)) 17
(.leaf (.vs 17 2 .nil)))))
(.br (.eq (.var 0) (.lit 7))
(.call 7 (kKn ++ [.bool]) (.vs 0 2 (.vs 8 4 .nil)) 14
(.br (.bvar 16)
(.call 2 (kKn) (.vs 14 2 (.cons (.var 1) .nil)) 17
(.leaf (.vs 17 2 .nil)))
(.call 2 (kKn) (.vs 12 2 (.cons (.var 1) .nil)) 17
(.leaf (.vs 17 2 .nil)))))
(.br (.eq (.var 0) (.lit 12))
(.call 7 (kKn ++ [.bool]) (.vs 0 2 (.vs 8 4 .nil)) 14
(.br (.bvar 16)
(.call 2 (kKn) (.vs 14 2 (.cons (.var 1) .nil)) 17
(.leaf (.vs 17 2 .nil)))
(.call 2 (kKn) (.vs 12 2 (.cons (.var 1) .nil)) 17
(.leaf (.vs 17 2 .nil)))))
(.call 2 (kKn) (.vs 12 2 (.cons (.var 1) .nil)) 14
(.leaf (.vs 14 2 .nil)))))))))))))))))
(.call 1 (kKn) .nil 8
(.leaf (.vs 8 2 .nil)))))))
(.call 1 (kKn) .nil 8
(.leaf (.vs 8 2 .nil)))))
(.call 1 (kKn) .nil 7
(.leaf (.vs 7 2 .nil)))))
def sP_qdo : Spec := ⟨fun k => match k with | 0 => sF_qmay | 1 => sF_qall | 2 => sF_qcut | 3 => sF_rbits | 4 => sF_qone | 5 => sF_qadd | 6 => sF_qsub | 7 => sF_qshift | _ => fun _ => [], fun k => match k with | _ => fun _ => True⟩
set_option maxRecDepth 100000 in
theorem sR_qdo : treeIs tys_VqA [sM_qmay 0, sM_qall 1, sM_qcut 2, sM_rbits 3, sM_qone 4, sM_qadd 5, sM_qsub 6, sM_qshift 7] [] [] 200 Tryz.f74 [.one (.int .i8), .one (.int .i8), .agg kKn, .agg kKn] [.agg kKn] false [.int .i8, .int .i8, .int .u64, .int .u64, .int .u64, .int .u64] sT_qdo := ⟨by kernel_rfl, by kernel_rfl, by kernel_rfl⟩
set_option maxRecDepth 100000 in
set_option maxHeartbeats 8000000 in
theorem sX_qdo (op : Int) (hop : inK .i8 op = true) (l : Int) (hl : inK .i8 l = true) (a : Kn) (ha : Kn.ok a) (b : Kn) (hb : Kn.ok b) (ρ : Env) (g : varsD ρ 0 [.int .i8, .int .i8, .int .u64, .int .u64, .int .u64, .int .u64] = [.z op, .z l, .z a.v, .z a.m, .z b.v, .z b.m]) : sT_qdo.asks sP_qdo (fun ρ e => e.D ρ = sF_qdo [.z op, .z l, .z a.v, .z a.m, .z b.v, .z b.m]) ρ fun _ _ => False := by
  simp only [varsD, varD, List.cons.injEq, Dt.z.injEq, Dt.l.injEq, b2i_eq_iff, Nat.reduceAdd, and_true] at g
  simp only [sT_qdo, sP_qdo, kKn, sF_qmay, sF_qall, sF_qcut, sF_rbits, sF_qone, sF_qadd, sF_qsub, sF_qshift, sV_qmay, sV_qcut, sV_rbits, sV_qone, sV_qadd, sV_qsub, sV_qshift, sF_qdo, sV_qdo, Tr.asks, upd_same, okDs, okD, eqs, E.I, E.B, E.L, E.R, E.D, E.vs, dI, dB, dL, varD, varsD, List.getElem?_cons_zero, List.getElem?_cons_succ, List.cons_append, List.nil_append, Nat.zero_add, Nat.add_zero, Nat.reduceAdd, and_true, true_and, b2i_one, -eq_self, Kn.eta, Pi.eta, Pu.eta, Rg.eta, Sc.eta, Sc.eta_r, Sc.eta_k, Sc.eta_2, g]
  intro e; (try simp only [e, Kn.eta, Pi.eta, Pu.eta, Rg.eta, Sc.eta, Sc.eta_r, Sc.eta_k, Sc.eta_2, -eq_self]); clear e
  refine ⟨fun c0 => ?_, fun c0 => ?_⟩
  intro e; (try simp only [e, Kn.eta, Pi.eta, Pu.eta, Rg.eta, Sc.eta, Sc.eta_r, Sc.eta_k, Sc.eta_2, -eq_self]); clear e
  refine ⟨fun c1 => ?_, fun c1 => ?_⟩
  refine ⟨fun c2 => ?_, fun c2 => ?_⟩
  intro e; (try simp only [e, Kn.eta, Pi.eta, Pu.eta, Rg.eta, Sc.eta, Sc.eta_r, Sc.eta_k, Sc.eta_2, -eq_self]); clear e
  exact agg_Kn (kd_bad (kd_lo c2))
  refine ⟨fun c3 => ?_, fun c3 => ?_⟩
  intro e; (try simp only [e, Kn.eta, Pi.eta, Pu.eta, Rg.eta, Sc.eta, Sc.eta_r, Sc.eta_k, Sc.eta_2, -eq_self]); clear e
  exact agg_Kn (kd_bad (kd_hi c3))
  refine ⟨fun c4 => ?_, fun c4 => ?_⟩
  intro e; (try simp only [e, Kn.eta, Pi.eta, Pu.eta, Rg.eta, Sc.eta, Sc.eta_r, Sc.eta_k, Sc.eta_2, -eq_self]); clear e
  intro e; (try simp only [e, Kn.eta, Pi.eta, Pu.eta, Rg.eta, Sc.eta, Sc.eta_r, Sc.eta_k, Sc.eta_2, -eq_self]); clear e
  refine ⟨fun c5 => ?_, fun c5 => ?_⟩
  refine ⟨fun c6 => ?_, fun c6 => ?_⟩
  intro e; (try simp only [e, Kn.eta, Pi.eta, Pu.eta, Rg.eta, Sc.eta, Sc.eta_r, Sc.eta_k, Sc.eta_2, -eq_self]); clear e
  intro e; (try simp only [e, Kn.eta, Pi.eta, Pu.eta, Rg.eta, Sc.eta, Sc.eta_r, Sc.eta_k, Sc.eta_2, -eq_self]); clear e
  (obtain rfl := eqz c4; have hg := kd_ok c0 c1 c2 c3 (l := 32) rfl; have wa := Kn.wf_of ha; have wb := Kn.wf_of hb; exact agg_Kn (kd_one2 hg wa wb c5 c6))
  intro e; (try simp only [e, Kn.eta, Pi.eta, Pu.eta, Rg.eta, Sc.eta, Sc.eta_r, Sc.eta_k, Sc.eta_2, -eq_self]); clear e
  refine ⟨fun c7 => ?_, fun c7 => ?_⟩
  intro e; (try simp only [e, Kn.eta, Pi.eta, Pu.eta, Rg.eta, Sc.eta, Sc.eta_r, Sc.eta_k, Sc.eta_2, -eq_self]); clear e
  (obtain rfl := eqz c4; have hg := kd_ok c0 c1 c2 c3 (l := 32) rfl; have wa := Kn.wf_of ha; have wb := Kn.wf_of hb; obtain rfl := eqz c7; exact agg_Kn (kd_op2 hg wa wb (.inr c6) rfl))
  refine ⟨fun c8 => ?_, fun c8 => ?_⟩
  intro e; (try simp only [e, Kn.eta, Pi.eta, Pu.eta, Rg.eta, Sc.eta, Sc.eta_r, Sc.eta_k, Sc.eta_2, -eq_self]); clear e
  (obtain rfl := eqz c4; have hg := kd_ok c0 c1 c2 c3 (l := 32) rfl; have wa := Kn.wf_of ha; have wb := Kn.wf_of hb; obtain rfl := eqz c8; exact agg_Kn (kd_op2 hg wa wb (.inr c6) rfl))
  refine ⟨fun c9 => ?_, fun c9 => ?_⟩
  intro e; (try simp only [e, Kn.eta, Pi.eta, Pu.eta, Rg.eta, Sc.eta, Sc.eta_r, Sc.eta_k, Sc.eta_2, -eq_self]); clear e
  (obtain rfl := eqz c4; have hg := kd_ok c0 c1 c2 c3 (l := 32) rfl; have wa := Kn.wf_of ha; have wb := Kn.wf_of hb; obtain rfl := eqz c9; exact agg_Kn (kd_op2 hg wa wb (.inr c6) rfl))
  refine ⟨fun c10 => ?_, fun c10 => ?_⟩
  intro e; (try simp only [e, Kn.eta, Pi.eta, Pu.eta, Rg.eta, Sc.eta, Sc.eta_r, Sc.eta_k, Sc.eta_2, -eq_self]); clear e
  (obtain rfl := eqz c4; have hg := kd_ok c0 c1 c2 c3 (l := 32) rfl; have wa := Kn.wf_of ha; have wb := Kn.wf_of hb; obtain rfl := eqz c10; exact agg_Kn (kd_op2 hg wa wb (.inr c6) rfl))
  refine ⟨fun c11 => ?_, fun c11 => ?_⟩
  intro e; (try simp only [e, Kn.eta, Pi.eta, Pu.eta, Rg.eta, Sc.eta, Sc.eta_r, Sc.eta_k, Sc.eta_2, -eq_self]); clear e
  intro e; (try simp only [e, Kn.eta, Pi.eta, Pu.eta, Rg.eta, Sc.eta, Sc.eta_r, Sc.eta_k, Sc.eta_2, -eq_self]); clear e
  (obtain rfl := eqz c4; have hg := kd_ok c0 c1 c2 c3 (l := 32) rfl; have wa := Kn.wf_of ha; have wb := Kn.wf_of hb; obtain rfl := eqz c11; exact agg_Kn (kd_op2 hg wa wb (.inr c6) rfl))
  refine ⟨fun c12 => ?_, fun c12 => ?_⟩
  intro e; (try simp only [e, Kn.eta, Pi.eta, Pu.eta, Rg.eta, Sc.eta, Sc.eta_r, Sc.eta_k, Sc.eta_2, -eq_self]); clear e
  intro e; (try simp only [e, Kn.eta, Pi.eta, Pu.eta, Rg.eta, Sc.eta, Sc.eta_r, Sc.eta_k, Sc.eta_2, -eq_self]); clear e
  (obtain rfl := eqz c4; have hg := kd_ok c0 c1 c2 c3 (l := 32) rfl; have wa := Kn.wf_of ha; have wb := Kn.wf_of hb; obtain rfl := eqz c12; exact agg_Kn (kd_op2 hg wa wb (.inr c6) rfl))
  refine ⟨fun c13 => ?_, fun c13 => ?_⟩
  intro e; (try simp only [e, Kn.eta, Pi.eta, Pu.eta, Rg.eta, Sc.eta, Sc.eta_r, Sc.eta_k, Sc.eta_2, -eq_self]); clear e
  intro e; (try simp only [e, Kn.eta, Pi.eta, Pu.eta, Rg.eta, Sc.eta, Sc.eta_r, Sc.eta_k, Sc.eta_2, -eq_self]); clear e
  intro e; (try simp only [e, Kn.eta, Pi.eta, Pu.eta, Rg.eta, Sc.eta, Sc.eta_r, Sc.eta_k, Sc.eta_2, -eq_self]); clear e
  (obtain rfl := eqz c4; have hg := kd_ok c0 c1 c2 c3 (l := 32) rfl; have wa := Kn.wf_of ha; have wb := Kn.wf_of hb; obtain rfl := eqz c13; exact agg_Kn (kd_op2 hg wa wb (.inr c6) rfl))
  refine ⟨fun c14 => ?_, fun c14 => ?_⟩
  intro e; (try simp only [e, Kn.eta, Pi.eta, Pu.eta, Rg.eta, Sc.eta, Sc.eta_r, Sc.eta_k, Sc.eta_2, -eq_self]); clear e
  refine ⟨fun c15 => ?_, fun c15 => ?_⟩
  intro e; (try simp only [e, Kn.eta, Pi.eta, Pu.eta, Rg.eta, Sc.eta, Sc.eta_r, Sc.eta_k, Sc.eta_2, -eq_self]); clear e
  (obtain rfl := eqz c4; have hg := kd_ok c0 c1 c2 c3 (l := 32) rfl; have wa := Kn.wf_of ha; have wb := Kn.wf_of hb; obtain rfl := eqz c14; exact agg_Kn (kd_op2 hg wa wb (.inr c6) (kop_sh (by decide) (by decide) rfl c15)))
  intro e; (try simp only [e, Kn.eta, Pi.eta, Pu.eta, Rg.eta, Sc.eta, Sc.eta_r, Sc.eta_k, Sc.eta_2, -eq_self]); clear e
  (obtain rfl := eqz c4; have hg := kd_ok c0 c1 c2 c3 (l := 32) rfl; have wa := Kn.wf_of ha; have wb := Kn.wf_of hb; obtain rfl := eqz c14; exact agg_Kn (kd_op2 hg wa wb (.inr c6) (kop_nsh (by decide) (by decide) c15)))
  refine ⟨fun c16 => ?_, fun c16 => ?_⟩
  intro e; (try simp only [e, Kn.eta, Pi.eta, Pu.eta, Rg.eta, Sc.eta, Sc.eta_r, Sc.eta_k, Sc.eta_2, -eq_self]); clear e
  refine ⟨fun c17 => ?_, fun c17 => ?_⟩
  intro e; (try simp only [e, Kn.eta, Pi.eta, Pu.eta, Rg.eta, Sc.eta, Sc.eta_r, Sc.eta_k, Sc.eta_2, -eq_self]); clear e
  (obtain rfl := eqz c4; have hg := kd_ok c0 c1 c2 c3 (l := 32) rfl; have wa := Kn.wf_of ha; have wb := Kn.wf_of hb; obtain rfl := eqz c16; exact agg_Kn (kd_op2 hg wa wb (.inr c6) (kop_sh (by decide) (by decide) rfl c17)))
  intro e; (try simp only [e, Kn.eta, Pi.eta, Pu.eta, Rg.eta, Sc.eta, Sc.eta_r, Sc.eta_k, Sc.eta_2, -eq_self]); clear e
  (obtain rfl := eqz c4; have hg := kd_ok c0 c1 c2 c3 (l := 32) rfl; have wa := Kn.wf_of ha; have wb := Kn.wf_of hb; obtain rfl := eqz c16; exact agg_Kn (kd_op2 hg wa wb (.inr c6) (kop_nsh (by decide) (by decide) c17)))
  refine ⟨fun c18 => ?_, fun c18 => ?_⟩
  intro e; (try simp only [e, Kn.eta, Pi.eta, Pu.eta, Rg.eta, Sc.eta, Sc.eta_r, Sc.eta_k, Sc.eta_2, -eq_self]); clear e
  refine ⟨fun c19 => ?_, fun c19 => ?_⟩
  intro e; (try simp only [e, Kn.eta, Pi.eta, Pu.eta, Rg.eta, Sc.eta, Sc.eta_r, Sc.eta_k, Sc.eta_2, -eq_self]); clear e
  (obtain rfl := eqz c4; have hg := kd_ok c0 c1 c2 c3 (l := 32) rfl; have wa := Kn.wf_of ha; have wb := Kn.wf_of hb; obtain rfl := eqz c18; exact agg_Kn (kd_op2 hg wa wb (.inr c6) (kop_sh (by decide) (by decide) rfl c19)))
  intro e; (try simp only [e, Kn.eta, Pi.eta, Pu.eta, Rg.eta, Sc.eta, Sc.eta_r, Sc.eta_k, Sc.eta_2, -eq_self]); clear e
  (obtain rfl := eqz c4; have hg := kd_ok c0 c1 c2 c3 (l := 32) rfl; have wa := Kn.wf_of ha; have wb := Kn.wf_of hb; obtain rfl := eqz c18; exact agg_Kn (kd_op2 hg wa wb (.inr c6) (kop_nsh (by decide) (by decide) c19)))
  intro e; (try simp only [e, Kn.eta, Pi.eta, Pu.eta, Rg.eta, Sc.eta, Sc.eta_r, Sc.eta_k, Sc.eta_2, -eq_self]); clear e
  (obtain rfl := eqz c4; have hg := kd_ok c0 c1 c2 c3 (l := 32) rfl; have wa := Kn.wf_of ha; have wb := Kn.wf_of hb; have h2 := of_decide_eq_false c2; have h3 := of_decide_eq_false c3; have e7 := nez c7; have e8 := nez c8; have e9 := nez c9; have e10 := nez c10; have e11 := nez c11; have e12 := nez c12; have e13 := nez c13; have e14 := nez c14; have e16 := nez c16; have e18 := nez c18; have h : op = 2 ∨ op = 3 ∨ op = 9 := (by omega); refine agg_Kn (kd_op2 hg wa wb (.inr c6) ?_); rcases h with rfl | rfl | rfl <;> rfl)
  intro e; (try simp only [e, Kn.eta, Pi.eta, Pu.eta, Rg.eta, Sc.eta, Sc.eta_r, Sc.eta_k, Sc.eta_2, -eq_self]); clear e
  refine ⟨fun c20 => ?_, fun c20 => ?_⟩
  intro e; (try simp only [e, Kn.eta, Pi.eta, Pu.eta, Rg.eta, Sc.eta, Sc.eta_r, Sc.eta_k, Sc.eta_2, -eq_self]); clear e
  (obtain rfl := eqz c4; have hg := kd_ok c0 c1 c2 c3 (l := 32) rfl; have wa := Kn.wf_of ha; have wb := Kn.wf_of hb; obtain rfl := eqz c20; exact agg_Kn (kd_op2 hg wa wb (.inl c5) rfl))
  refine ⟨fun c21 => ?_, fun c21 => ?_⟩
  intro e; (try simp only [e, Kn.eta, Pi.eta, Pu.eta, Rg.eta, Sc.eta, Sc.eta_r, Sc.eta_k, Sc.eta_2, -eq_self]); clear e
  (obtain rfl := eqz c4; have hg := kd_ok c0 c1 c2 c3 (l := 32) rfl; have wa := Kn.wf_of ha; have wb := Kn.wf_of hb; obtain rfl := eqz c21; exact agg_Kn (kd_op2 hg wa wb (.inl c5) rfl))
  refine ⟨fun c22 => ?_, fun c22 => ?_⟩
  intro e; (try simp only [e, Kn.eta, Pi.eta, Pu.eta, Rg.eta, Sc.eta, Sc.eta_r, Sc.eta_k, Sc.eta_2, -eq_self]); clear e
  (obtain rfl := eqz c4; have hg := kd_ok c0 c1 c2 c3 (l := 32) rfl; have wa := Kn.wf_of ha; have wb := Kn.wf_of hb; obtain rfl := eqz c22; exact agg_Kn (kd_op2 hg wa wb (.inl c5) rfl))
  refine ⟨fun c23 => ?_, fun c23 => ?_⟩
  intro e; (try simp only [e, Kn.eta, Pi.eta, Pu.eta, Rg.eta, Sc.eta, Sc.eta_r, Sc.eta_k, Sc.eta_2, -eq_self]); clear e
  (obtain rfl := eqz c4; have hg := kd_ok c0 c1 c2 c3 (l := 32) rfl; have wa := Kn.wf_of ha; have wb := Kn.wf_of hb; obtain rfl := eqz c23; exact agg_Kn (kd_op2 hg wa wb (.inl c5) rfl))
  refine ⟨fun c24 => ?_, fun c24 => ?_⟩
  intro e; (try simp only [e, Kn.eta, Pi.eta, Pu.eta, Rg.eta, Sc.eta, Sc.eta_r, Sc.eta_k, Sc.eta_2, -eq_self]); clear e
  intro e; (try simp only [e, Kn.eta, Pi.eta, Pu.eta, Rg.eta, Sc.eta, Sc.eta_r, Sc.eta_k, Sc.eta_2, -eq_self]); clear e
  (obtain rfl := eqz c4; have hg := kd_ok c0 c1 c2 c3 (l := 32) rfl; have wa := Kn.wf_of ha; have wb := Kn.wf_of hb; obtain rfl := eqz c24; exact agg_Kn (kd_op2 hg wa wb (.inl c5) rfl))
  refine ⟨fun c25 => ?_, fun c25 => ?_⟩
  intro e; (try simp only [e, Kn.eta, Pi.eta, Pu.eta, Rg.eta, Sc.eta, Sc.eta_r, Sc.eta_k, Sc.eta_2, -eq_self]); clear e
  intro e; (try simp only [e, Kn.eta, Pi.eta, Pu.eta, Rg.eta, Sc.eta, Sc.eta_r, Sc.eta_k, Sc.eta_2, -eq_self]); clear e
  (obtain rfl := eqz c4; have hg := kd_ok c0 c1 c2 c3 (l := 32) rfl; have wa := Kn.wf_of ha; have wb := Kn.wf_of hb; obtain rfl := eqz c25; exact agg_Kn (kd_op2 hg wa wb (.inl c5) rfl))
  refine ⟨fun c26 => ?_, fun c26 => ?_⟩
  intro e; (try simp only [e, Kn.eta, Pi.eta, Pu.eta, Rg.eta, Sc.eta, Sc.eta_r, Sc.eta_k, Sc.eta_2, -eq_self]); clear e
  intro e; (try simp only [e, Kn.eta, Pi.eta, Pu.eta, Rg.eta, Sc.eta, Sc.eta_r, Sc.eta_k, Sc.eta_2, -eq_self]); clear e
  intro e; (try simp only [e, Kn.eta, Pi.eta, Pu.eta, Rg.eta, Sc.eta, Sc.eta_r, Sc.eta_k, Sc.eta_2, -eq_self]); clear e
  (obtain rfl := eqz c4; have hg := kd_ok c0 c1 c2 c3 (l := 32) rfl; have wa := Kn.wf_of ha; have wb := Kn.wf_of hb; obtain rfl := eqz c26; exact agg_Kn (kd_op2 hg wa wb (.inl c5) rfl))
  refine ⟨fun c27 => ?_, fun c27 => ?_⟩
  intro e; (try simp only [e, Kn.eta, Pi.eta, Pu.eta, Rg.eta, Sc.eta, Sc.eta_r, Sc.eta_k, Sc.eta_2, -eq_self]); clear e
  refine ⟨fun c28 => ?_, fun c28 => ?_⟩
  intro e; (try simp only [e, Kn.eta, Pi.eta, Pu.eta, Rg.eta, Sc.eta, Sc.eta_r, Sc.eta_k, Sc.eta_2, -eq_self]); clear e
  (obtain rfl := eqz c4; have hg := kd_ok c0 c1 c2 c3 (l := 32) rfl; have wa := Kn.wf_of ha; have wb := Kn.wf_of hb; obtain rfl := eqz c27; exact agg_Kn (kd_op2 hg wa wb (.inl c5) (kop_sh (by decide) (by decide) rfl c28)))
  intro e; (try simp only [e, Kn.eta, Pi.eta, Pu.eta, Rg.eta, Sc.eta, Sc.eta_r, Sc.eta_k, Sc.eta_2, -eq_self]); clear e
  (obtain rfl := eqz c4; have hg := kd_ok c0 c1 c2 c3 (l := 32) rfl; have wa := Kn.wf_of ha; have wb := Kn.wf_of hb; obtain rfl := eqz c27; exact agg_Kn (kd_op2 hg wa wb (.inl c5) (kop_nsh (by decide) (by decide) c28)))
  refine ⟨fun c29 => ?_, fun c29 => ?_⟩
  intro e; (try simp only [e, Kn.eta, Pi.eta, Pu.eta, Rg.eta, Sc.eta, Sc.eta_r, Sc.eta_k, Sc.eta_2, -eq_self]); clear e
  refine ⟨fun c30 => ?_, fun c30 => ?_⟩
  intro e; (try simp only [e, Kn.eta, Pi.eta, Pu.eta, Rg.eta, Sc.eta, Sc.eta_r, Sc.eta_k, Sc.eta_2, -eq_self]); clear e
  (obtain rfl := eqz c4; have hg := kd_ok c0 c1 c2 c3 (l := 32) rfl; have wa := Kn.wf_of ha; have wb := Kn.wf_of hb; obtain rfl := eqz c29; exact agg_Kn (kd_op2 hg wa wb (.inl c5) (kop_sh (by decide) (by decide) rfl c30)))
  intro e; (try simp only [e, Kn.eta, Pi.eta, Pu.eta, Rg.eta, Sc.eta, Sc.eta_r, Sc.eta_k, Sc.eta_2, -eq_self]); clear e
  (obtain rfl := eqz c4; have hg := kd_ok c0 c1 c2 c3 (l := 32) rfl; have wa := Kn.wf_of ha; have wb := Kn.wf_of hb; obtain rfl := eqz c29; exact agg_Kn (kd_op2 hg wa wb (.inl c5) (kop_nsh (by decide) (by decide) c30)))
  refine ⟨fun c31 => ?_, fun c31 => ?_⟩
  intro e; (try simp only [e, Kn.eta, Pi.eta, Pu.eta, Rg.eta, Sc.eta, Sc.eta_r, Sc.eta_k, Sc.eta_2, -eq_self]); clear e
  refine ⟨fun c32 => ?_, fun c32 => ?_⟩
  intro e; (try simp only [e, Kn.eta, Pi.eta, Pu.eta, Rg.eta, Sc.eta, Sc.eta_r, Sc.eta_k, Sc.eta_2, -eq_self]); clear e
  (obtain rfl := eqz c4; have hg := kd_ok c0 c1 c2 c3 (l := 32) rfl; have wa := Kn.wf_of ha; have wb := Kn.wf_of hb; obtain rfl := eqz c31; exact agg_Kn (kd_op2 hg wa wb (.inl c5) (kop_sh (by decide) (by decide) rfl c32)))
  intro e; (try simp only [e, Kn.eta, Pi.eta, Pu.eta, Rg.eta, Sc.eta, Sc.eta_r, Sc.eta_k, Sc.eta_2, -eq_self]); clear e
  (obtain rfl := eqz c4; have hg := kd_ok c0 c1 c2 c3 (l := 32) rfl; have wa := Kn.wf_of ha; have wb := Kn.wf_of hb; obtain rfl := eqz c31; exact agg_Kn (kd_op2 hg wa wb (.inl c5) (kop_nsh (by decide) (by decide) c32)))
  intro e; (try simp only [e, Kn.eta, Pi.eta, Pu.eta, Rg.eta, Sc.eta, Sc.eta_r, Sc.eta_k, Sc.eta_2, -eq_self]); clear e
  (obtain rfl := eqz c4; have hg := kd_ok c0 c1 c2 c3 (l := 32) rfl; have wa := Kn.wf_of ha; have wb := Kn.wf_of hb; have h2 := of_decide_eq_false c2; have h3 := of_decide_eq_false c3; have e20 := nez c20; have e21 := nez c21; have e22 := nez c22; have e23 := nez c23; have e24 := nez c24; have e25 := nez c25; have e26 := nez c26; have e27 := nez c27; have e29 := nez c29; have e31 := nez c31; have h : op = 2 ∨ op = 3 ∨ op = 9 := (by omega); refine agg_Kn (kd_op2 hg wa wb (.inl c5) ?_); rcases h with rfl | rfl | rfl <;> rfl)
  refine ⟨fun c33 => ?_, fun c33 => ?_⟩
  intro e; (try simp only [e, Kn.eta, Pi.eta, Pu.eta, Rg.eta, Sc.eta, Sc.eta_r, Sc.eta_k, Sc.eta_2, -eq_self]); clear e
  intro e; (try simp only [e, Kn.eta, Pi.eta, Pu.eta, Rg.eta, Sc.eta, Sc.eta_r, Sc.eta_k, Sc.eta_2, -eq_self]); clear e
  refine ⟨fun c34 => ?_, fun c34 => ?_⟩
  refine ⟨fun c35 => ?_, fun c35 => ?_⟩
  intro e; (try simp only [e, Kn.eta, Pi.eta, Pu.eta, Rg.eta, Sc.eta, Sc.eta_r, Sc.eta_k, Sc.eta_2, -eq_self]); clear e
  intro e; (try simp only [e, Kn.eta, Pi.eta, Pu.eta, Rg.eta, Sc.eta, Sc.eta_r, Sc.eta_k, Sc.eta_2, -eq_self]); clear e
  (obtain rfl := eqz c33; have hg := kd_ok c0 c1 c2 c3 (l := 64) rfl; have wa := Kn.wf_of ha; have wb := Kn.wf_of hb; exact agg_Kn (kd_one2 hg wa wb c34 c35))
  intro e; (try simp only [e, Kn.eta, Pi.eta, Pu.eta, Rg.eta, Sc.eta, Sc.eta_r, Sc.eta_k, Sc.eta_2, -eq_self]); clear e
  refine ⟨fun c36 => ?_, fun c36 => ?_⟩
  intro e; (try simp only [e, Kn.eta, Pi.eta, Pu.eta, Rg.eta, Sc.eta, Sc.eta_r, Sc.eta_k, Sc.eta_2, -eq_self]); clear e
  (obtain rfl := eqz c33; have hg := kd_ok c0 c1 c2 c3 (l := 64) rfl; have wa := Kn.wf_of ha; have wb := Kn.wf_of hb; obtain rfl := eqz c36; exact agg_Kn (kd_op2 hg wa wb (.inr c35) rfl))
  refine ⟨fun c37 => ?_, fun c37 => ?_⟩
  intro e; (try simp only [e, Kn.eta, Pi.eta, Pu.eta, Rg.eta, Sc.eta, Sc.eta_r, Sc.eta_k, Sc.eta_2, -eq_self]); clear e
  (obtain rfl := eqz c33; have hg := kd_ok c0 c1 c2 c3 (l := 64) rfl; have wa := Kn.wf_of ha; have wb := Kn.wf_of hb; obtain rfl := eqz c37; exact agg_Kn (kd_op2 hg wa wb (.inr c35) rfl))
  refine ⟨fun c38 => ?_, fun c38 => ?_⟩
  intro e; (try simp only [e, Kn.eta, Pi.eta, Pu.eta, Rg.eta, Sc.eta, Sc.eta_r, Sc.eta_k, Sc.eta_2, -eq_self]); clear e
  (obtain rfl := eqz c33; have hg := kd_ok c0 c1 c2 c3 (l := 64) rfl; have wa := Kn.wf_of ha; have wb := Kn.wf_of hb; obtain rfl := eqz c38; exact agg_Kn (kd_op2 hg wa wb (.inr c35) rfl))
  refine ⟨fun c39 => ?_, fun c39 => ?_⟩
  intro e; (try simp only [e, Kn.eta, Pi.eta, Pu.eta, Rg.eta, Sc.eta, Sc.eta_r, Sc.eta_k, Sc.eta_2, -eq_self]); clear e
  (obtain rfl := eqz c33; have hg := kd_ok c0 c1 c2 c3 (l := 64) rfl; have wa := Kn.wf_of ha; have wb := Kn.wf_of hb; obtain rfl := eqz c39; exact agg_Kn (kd_op2 hg wa wb (.inr c35) rfl))
  refine ⟨fun c40 => ?_, fun c40 => ?_⟩
  intro e; (try simp only [e, Kn.eta, Pi.eta, Pu.eta, Rg.eta, Sc.eta, Sc.eta_r, Sc.eta_k, Sc.eta_2, -eq_self]); clear e
  intro e; (try simp only [e, Kn.eta, Pi.eta, Pu.eta, Rg.eta, Sc.eta, Sc.eta_r, Sc.eta_k, Sc.eta_2, -eq_self]); clear e
  (obtain rfl := eqz c33; have hg := kd_ok c0 c1 c2 c3 (l := 64) rfl; have wa := Kn.wf_of ha; have wb := Kn.wf_of hb; obtain rfl := eqz c40; exact agg_Kn (kd_op2 hg wa wb (.inr c35) rfl))
  refine ⟨fun c41 => ?_, fun c41 => ?_⟩
  intro e; (try simp only [e, Kn.eta, Pi.eta, Pu.eta, Rg.eta, Sc.eta, Sc.eta_r, Sc.eta_k, Sc.eta_2, -eq_self]); clear e
  intro e; (try simp only [e, Kn.eta, Pi.eta, Pu.eta, Rg.eta, Sc.eta, Sc.eta_r, Sc.eta_k, Sc.eta_2, -eq_self]); clear e
  (obtain rfl := eqz c33; have hg := kd_ok c0 c1 c2 c3 (l := 64) rfl; have wa := Kn.wf_of ha; have wb := Kn.wf_of hb; obtain rfl := eqz c41; exact agg_Kn (kd_op2 hg wa wb (.inr c35) rfl))
  refine ⟨fun c42 => ?_, fun c42 => ?_⟩
  intro e; (try simp only [e, Kn.eta, Pi.eta, Pu.eta, Rg.eta, Sc.eta, Sc.eta_r, Sc.eta_k, Sc.eta_2, -eq_self]); clear e
  intro e; (try simp only [e, Kn.eta, Pi.eta, Pu.eta, Rg.eta, Sc.eta, Sc.eta_r, Sc.eta_k, Sc.eta_2, -eq_self]); clear e
  intro e; (try simp only [e, Kn.eta, Pi.eta, Pu.eta, Rg.eta, Sc.eta, Sc.eta_r, Sc.eta_k, Sc.eta_2, -eq_self]); clear e
  (obtain rfl := eqz c33; have hg := kd_ok c0 c1 c2 c3 (l := 64) rfl; have wa := Kn.wf_of ha; have wb := Kn.wf_of hb; obtain rfl := eqz c42; exact agg_Kn (kd_op2 hg wa wb (.inr c35) rfl))
  refine ⟨fun c43 => ?_, fun c43 => ?_⟩
  intro e; (try simp only [e, Kn.eta, Pi.eta, Pu.eta, Rg.eta, Sc.eta, Sc.eta_r, Sc.eta_k, Sc.eta_2, -eq_self]); clear e
  refine ⟨fun c44 => ?_, fun c44 => ?_⟩
  intro e; (try simp only [e, Kn.eta, Pi.eta, Pu.eta, Rg.eta, Sc.eta, Sc.eta_r, Sc.eta_k, Sc.eta_2, -eq_self]); clear e
  (obtain rfl := eqz c33; have hg := kd_ok c0 c1 c2 c3 (l := 64) rfl; have wa := Kn.wf_of ha; have wb := Kn.wf_of hb; obtain rfl := eqz c43; exact agg_Kn (kd_op2 hg wa wb (.inr c35) (kop_sh (by decide) (by decide) rfl c44)))
  intro e; (try simp only [e, Kn.eta, Pi.eta, Pu.eta, Rg.eta, Sc.eta, Sc.eta_r, Sc.eta_k, Sc.eta_2, -eq_self]); clear e
  (obtain rfl := eqz c33; have hg := kd_ok c0 c1 c2 c3 (l := 64) rfl; have wa := Kn.wf_of ha; have wb := Kn.wf_of hb; obtain rfl := eqz c43; exact agg_Kn (kd_op2 hg wa wb (.inr c35) (kop_nsh (by decide) (by decide) c44)))
  refine ⟨fun c45 => ?_, fun c45 => ?_⟩
  intro e; (try simp only [e, Kn.eta, Pi.eta, Pu.eta, Rg.eta, Sc.eta, Sc.eta_r, Sc.eta_k, Sc.eta_2, -eq_self]); clear e
  refine ⟨fun c46 => ?_, fun c46 => ?_⟩
  intro e; (try simp only [e, Kn.eta, Pi.eta, Pu.eta, Rg.eta, Sc.eta, Sc.eta_r, Sc.eta_k, Sc.eta_2, -eq_self]); clear e
  (obtain rfl := eqz c33; have hg := kd_ok c0 c1 c2 c3 (l := 64) rfl; have wa := Kn.wf_of ha; have wb := Kn.wf_of hb; obtain rfl := eqz c45; exact agg_Kn (kd_op2 hg wa wb (.inr c35) (kop_sh (by decide) (by decide) rfl c46)))
  intro e; (try simp only [e, Kn.eta, Pi.eta, Pu.eta, Rg.eta, Sc.eta, Sc.eta_r, Sc.eta_k, Sc.eta_2, -eq_self]); clear e
  (obtain rfl := eqz c33; have hg := kd_ok c0 c1 c2 c3 (l := 64) rfl; have wa := Kn.wf_of ha; have wb := Kn.wf_of hb; obtain rfl := eqz c45; exact agg_Kn (kd_op2 hg wa wb (.inr c35) (kop_nsh (by decide) (by decide) c46)))
  refine ⟨fun c47 => ?_, fun c47 => ?_⟩
  intro e; (try simp only [e, Kn.eta, Pi.eta, Pu.eta, Rg.eta, Sc.eta, Sc.eta_r, Sc.eta_k, Sc.eta_2, -eq_self]); clear e
  refine ⟨fun c48 => ?_, fun c48 => ?_⟩
  intro e; (try simp only [e, Kn.eta, Pi.eta, Pu.eta, Rg.eta, Sc.eta, Sc.eta_r, Sc.eta_k, Sc.eta_2, -eq_self]); clear e
  (obtain rfl := eqz c33; have hg := kd_ok c0 c1 c2 c3 (l := 64) rfl; have wa := Kn.wf_of ha; have wb := Kn.wf_of hb; obtain rfl := eqz c47; exact agg_Kn (kd_op2 hg wa wb (.inr c35) (kop_sh (by decide) (by decide) rfl c48)))
  intro e; (try simp only [e, Kn.eta, Pi.eta, Pu.eta, Rg.eta, Sc.eta, Sc.eta_r, Sc.eta_k, Sc.eta_2, -eq_self]); clear e
  (obtain rfl := eqz c33; have hg := kd_ok c0 c1 c2 c3 (l := 64) rfl; have wa := Kn.wf_of ha; have wb := Kn.wf_of hb; obtain rfl := eqz c47; exact agg_Kn (kd_op2 hg wa wb (.inr c35) (kop_nsh (by decide) (by decide) c48)))
  intro e; (try simp only [e, Kn.eta, Pi.eta, Pu.eta, Rg.eta, Sc.eta, Sc.eta_r, Sc.eta_k, Sc.eta_2, -eq_self]); clear e
  (obtain rfl := eqz c33; have hg := kd_ok c0 c1 c2 c3 (l := 64) rfl; have wa := Kn.wf_of ha; have wb := Kn.wf_of hb; have h2 := of_decide_eq_false c2; have h3 := of_decide_eq_false c3; have e36 := nez c36; have e37 := nez c37; have e38 := nez c38; have e39 := nez c39; have e40 := nez c40; have e41 := nez c41; have e42 := nez c42; have e43 := nez c43; have e45 := nez c45; have e47 := nez c47; have h : op = 2 ∨ op = 3 ∨ op = 9 := (by omega); refine agg_Kn (kd_op2 hg wa wb (.inr c35) ?_); rcases h with rfl | rfl | rfl <;> rfl)
  intro e; (try simp only [e, Kn.eta, Pi.eta, Pu.eta, Rg.eta, Sc.eta, Sc.eta_r, Sc.eta_k, Sc.eta_2, -eq_self]); clear e
  refine ⟨fun c49 => ?_, fun c49 => ?_⟩
  intro e; (try simp only [e, Kn.eta, Pi.eta, Pu.eta, Rg.eta, Sc.eta, Sc.eta_r, Sc.eta_k, Sc.eta_2, -eq_self]); clear e
  (obtain rfl := eqz c33; have hg := kd_ok c0 c1 c2 c3 (l := 64) rfl; have wa := Kn.wf_of ha; have wb := Kn.wf_of hb; obtain rfl := eqz c49; exact agg_Kn (kd_op2 hg wa wb (.inl c34) rfl))
  refine ⟨fun c50 => ?_, fun c50 => ?_⟩
  intro e; (try simp only [e, Kn.eta, Pi.eta, Pu.eta, Rg.eta, Sc.eta, Sc.eta_r, Sc.eta_k, Sc.eta_2, -eq_self]); clear e
  (obtain rfl := eqz c33; have hg := kd_ok c0 c1 c2 c3 (l := 64) rfl; have wa := Kn.wf_of ha; have wb := Kn.wf_of hb; obtain rfl := eqz c50; exact agg_Kn (kd_op2 hg wa wb (.inl c34) rfl))
  refine ⟨fun c51 => ?_, fun c51 => ?_⟩
  intro e; (try simp only [e, Kn.eta, Pi.eta, Pu.eta, Rg.eta, Sc.eta, Sc.eta_r, Sc.eta_k, Sc.eta_2, -eq_self]); clear e
  (obtain rfl := eqz c33; have hg := kd_ok c0 c1 c2 c3 (l := 64) rfl; have wa := Kn.wf_of ha; have wb := Kn.wf_of hb; obtain rfl := eqz c51; exact agg_Kn (kd_op2 hg wa wb (.inl c34) rfl))
  refine ⟨fun c52 => ?_, fun c52 => ?_⟩
  intro e; (try simp only [e, Kn.eta, Pi.eta, Pu.eta, Rg.eta, Sc.eta, Sc.eta_r, Sc.eta_k, Sc.eta_2, -eq_self]); clear e
  (obtain rfl := eqz c33; have hg := kd_ok c0 c1 c2 c3 (l := 64) rfl; have wa := Kn.wf_of ha; have wb := Kn.wf_of hb; obtain rfl := eqz c52; exact agg_Kn (kd_op2 hg wa wb (.inl c34) rfl))
  refine ⟨fun c53 => ?_, fun c53 => ?_⟩
  intro e; (try simp only [e, Kn.eta, Pi.eta, Pu.eta, Rg.eta, Sc.eta, Sc.eta_r, Sc.eta_k, Sc.eta_2, -eq_self]); clear e
  intro e; (try simp only [e, Kn.eta, Pi.eta, Pu.eta, Rg.eta, Sc.eta, Sc.eta_r, Sc.eta_k, Sc.eta_2, -eq_self]); clear e
  (obtain rfl := eqz c33; have hg := kd_ok c0 c1 c2 c3 (l := 64) rfl; have wa := Kn.wf_of ha; have wb := Kn.wf_of hb; obtain rfl := eqz c53; exact agg_Kn (kd_op2 hg wa wb (.inl c34) rfl))
  refine ⟨fun c54 => ?_, fun c54 => ?_⟩
  intro e; (try simp only [e, Kn.eta, Pi.eta, Pu.eta, Rg.eta, Sc.eta, Sc.eta_r, Sc.eta_k, Sc.eta_2, -eq_self]); clear e
  intro e; (try simp only [e, Kn.eta, Pi.eta, Pu.eta, Rg.eta, Sc.eta, Sc.eta_r, Sc.eta_k, Sc.eta_2, -eq_self]); clear e
  (obtain rfl := eqz c33; have hg := kd_ok c0 c1 c2 c3 (l := 64) rfl; have wa := Kn.wf_of ha; have wb := Kn.wf_of hb; obtain rfl := eqz c54; exact agg_Kn (kd_op2 hg wa wb (.inl c34) rfl))
  refine ⟨fun c55 => ?_, fun c55 => ?_⟩
  intro e; (try simp only [e, Kn.eta, Pi.eta, Pu.eta, Rg.eta, Sc.eta, Sc.eta_r, Sc.eta_k, Sc.eta_2, -eq_self]); clear e
  intro e; (try simp only [e, Kn.eta, Pi.eta, Pu.eta, Rg.eta, Sc.eta, Sc.eta_r, Sc.eta_k, Sc.eta_2, -eq_self]); clear e
  intro e; (try simp only [e, Kn.eta, Pi.eta, Pu.eta, Rg.eta, Sc.eta, Sc.eta_r, Sc.eta_k, Sc.eta_2, -eq_self]); clear e
  (obtain rfl := eqz c33; have hg := kd_ok c0 c1 c2 c3 (l := 64) rfl; have wa := Kn.wf_of ha; have wb := Kn.wf_of hb; obtain rfl := eqz c55; exact agg_Kn (kd_op2 hg wa wb (.inl c34) rfl))
  refine ⟨fun c56 => ?_, fun c56 => ?_⟩
  intro e; (try simp only [e, Kn.eta, Pi.eta, Pu.eta, Rg.eta, Sc.eta, Sc.eta_r, Sc.eta_k, Sc.eta_2, -eq_self]); clear e
  refine ⟨fun c57 => ?_, fun c57 => ?_⟩
  intro e; (try simp only [e, Kn.eta, Pi.eta, Pu.eta, Rg.eta, Sc.eta, Sc.eta_r, Sc.eta_k, Sc.eta_2, -eq_self]); clear e
  (obtain rfl := eqz c33; have hg := kd_ok c0 c1 c2 c3 (l := 64) rfl; have wa := Kn.wf_of ha; have wb := Kn.wf_of hb; obtain rfl := eqz c56; exact agg_Kn (kd_op2 hg wa wb (.inl c34) (kop_sh (by decide) (by decide) rfl c57)))
  intro e; (try simp only [e, Kn.eta, Pi.eta, Pu.eta, Rg.eta, Sc.eta, Sc.eta_r, Sc.eta_k, Sc.eta_2, -eq_self]); clear e
  (obtain rfl := eqz c33; have hg := kd_ok c0 c1 c2 c3 (l := 64) rfl; have wa := Kn.wf_of ha; have wb := Kn.wf_of hb; obtain rfl := eqz c56; exact agg_Kn (kd_op2 hg wa wb (.inl c34) (kop_nsh (by decide) (by decide) c57)))
  refine ⟨fun c58 => ?_, fun c58 => ?_⟩
  intro e; (try simp only [e, Kn.eta, Pi.eta, Pu.eta, Rg.eta, Sc.eta, Sc.eta_r, Sc.eta_k, Sc.eta_2, -eq_self]); clear e
  refine ⟨fun c59 => ?_, fun c59 => ?_⟩
  intro e; (try simp only [e, Kn.eta, Pi.eta, Pu.eta, Rg.eta, Sc.eta, Sc.eta_r, Sc.eta_k, Sc.eta_2, -eq_self]); clear e
  (obtain rfl := eqz c33; have hg := kd_ok c0 c1 c2 c3 (l := 64) rfl; have wa := Kn.wf_of ha; have wb := Kn.wf_of hb; obtain rfl := eqz c58; exact agg_Kn (kd_op2 hg wa wb (.inl c34) (kop_sh (by decide) (by decide) rfl c59)))
  intro e; (try simp only [e, Kn.eta, Pi.eta, Pu.eta, Rg.eta, Sc.eta, Sc.eta_r, Sc.eta_k, Sc.eta_2, -eq_self]); clear e
  (obtain rfl := eqz c33; have hg := kd_ok c0 c1 c2 c3 (l := 64) rfl; have wa := Kn.wf_of ha; have wb := Kn.wf_of hb; obtain rfl := eqz c58; exact agg_Kn (kd_op2 hg wa wb (.inl c34) (kop_nsh (by decide) (by decide) c59)))
  refine ⟨fun c60 => ?_, fun c60 => ?_⟩
  intro e; (try simp only [e, Kn.eta, Pi.eta, Pu.eta, Rg.eta, Sc.eta, Sc.eta_r, Sc.eta_k, Sc.eta_2, -eq_self]); clear e
  refine ⟨fun c61 => ?_, fun c61 => ?_⟩
  intro e; (try simp only [e, Kn.eta, Pi.eta, Pu.eta, Rg.eta, Sc.eta, Sc.eta_r, Sc.eta_k, Sc.eta_2, -eq_self]); clear e
  (obtain rfl := eqz c33; have hg := kd_ok c0 c1 c2 c3 (l := 64) rfl; have wa := Kn.wf_of ha; have wb := Kn.wf_of hb; obtain rfl := eqz c60; exact agg_Kn (kd_op2 hg wa wb (.inl c34) (kop_sh (by decide) (by decide) rfl c61)))
  intro e; (try simp only [e, Kn.eta, Pi.eta, Pu.eta, Rg.eta, Sc.eta, Sc.eta_r, Sc.eta_k, Sc.eta_2, -eq_self]); clear e
  (obtain rfl := eqz c33; have hg := kd_ok c0 c1 c2 c3 (l := 64) rfl; have wa := Kn.wf_of ha; have wb := Kn.wf_of hb; obtain rfl := eqz c60; exact agg_Kn (kd_op2 hg wa wb (.inl c34) (kop_nsh (by decide) (by decide) c61)))
  intro e; (try simp only [e, Kn.eta, Pi.eta, Pu.eta, Rg.eta, Sc.eta, Sc.eta_r, Sc.eta_k, Sc.eta_2, -eq_self]); clear e
  (obtain rfl := eqz c33; have hg := kd_ok c0 c1 c2 c3 (l := 64) rfl; have wa := Kn.wf_of ha; have wb := Kn.wf_of hb; have h2 := of_decide_eq_false c2; have h3 := of_decide_eq_false c3; have e49 := nez c49; have e50 := nez c50; have e51 := nez c51; have e52 := nez c52; have e53 := nez c53; have e54 := nez c54; have e55 := nez c55; have e56 := nez c56; have e58 := nez c58; have e60 := nez c60; have h : op = 2 ∨ op = 3 ∨ op = 9 := (by omega); refine agg_Kn (kd_op2 hg wa wb (.inl c34) ?_); rcases h with rfl | rfl | rfl <;> rfl)
  intro e; (try simp only [e, Kn.eta, Pi.eta, Pu.eta, Rg.eta, Sc.eta, Sc.eta_r, Sc.eta_k, Sc.eta_2, -eq_self]); clear e
  exact agg_Kn (kd_bad (kd_w c4 c33))
  intro e; (try simp only [e, Kn.eta, Pi.eta, Pu.eta, Rg.eta, Sc.eta, Sc.eta_r, Sc.eta_k, Sc.eta_2, -eq_self]); clear e
  exact agg_Kn (kd_bad (kd_b c1))
  intro e; (try simp only [e, Kn.eta, Pi.eta, Pu.eta, Rg.eta, Sc.eta, Sc.eta_r, Sc.eta_k, Sc.eta_2, -eq_self]); clear e
  exact agg_Kn (kd_bad (kd_a c0))
theorem sK_qdo {sp : Spec} {key : Nat} (hF : sp.F key = sF_qdo) (hP : sp.pre key = fun _ => True := by rfl) : SmOk Tryz.prog sp (sM_qdo key) :=
  fun_ok (s := sM_qdo key) hF hP (by kernel_rfl) tysok_VqA (smc (sK_qmay rfl) (smc (sK_qall rfl) (smc (sK_qcut rfl) (smc (sK_rbits rfl) (smc (sK_qone rfl) (smc (sK_qadd rfl) (smc (sK_qsub rfl) (smc (sK_qshift rfl) sm0)))))))) Tryz.func74 sR_qdo (.inl rfl) (fun x0 gx0 x1 gx1 x2 gx2 x3 gx3 x4 gx4 x5 gx5 hp ρ g => sX_qdo x0 gx0 x1 gx1 ⟨x2, x3⟩ ⟨gx2, gx3⟩ ⟨x4, x5⟩ ⟨gx4, gx5⟩ ρ g)
end Go.Proofs.YtcfnglbcgkappaaGreat
