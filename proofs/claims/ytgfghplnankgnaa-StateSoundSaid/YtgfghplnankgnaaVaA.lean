/- Contracts of package known and the small ones of package value, by the symbolic run. -/
import Derived.Test.YtgfghplnankgnaaXbZ
import Derived.Test.YtgfghplnankgnaaProg
import Derived.Laws.Externs
set_option linter.unusedVariables false
set_option linter.unusedSimpArgs false
namespace Go.Proofs.Ytgfghplnankgnaa
open Go.RowKit Go.ChangeShapes Go.WideShapes

theorem Kn.eta (a : Kn) : (⟨a.v, a.m⟩ : Kn) = a := rfl
def Kn.ok (a : Kn) : Prop := inK .u64 a.v = true ∧ inK .u64 a.m = true
def kKn : List CK := [.int .u64, .int .u64]
theorem Sc.eta (a : Sc) : (⟨a.ul, a.uh, a.sl, a.sh, a.v, a.m⟩ : Sc) = a := rfl
def Sc.ok (a : Sc) : Prop := inK .u64 a.ul = true ∧ inK .u64 a.uh = true ∧ inK .i64 a.sl = true ∧ inK .i64 a.sh = true ∧ inK .u64 a.v = true ∧ inK .u64 a.m = true
def kSc : List CK := [.int .u64, .int .u64, .int .i64, .int .i64, .int .u64, .int .u64]
def tys_VaA : List (Nat × TI) := [(2, ⟨false, 1, [.int .i64 (.lit 0)], [], none, some .i64, false, false, none, 8, false, none, false⟩),
 (23, ⟨false, 1, [.int .u64 (.lit 0)], [], none, some .u64, false, false, none, 8, false, none, false⟩),
 (25, ⟨true, 4, [.int .u64 (.lit 0), .int .u64 (.lit 0), .int .i64 (.lit 0), .int .i64 (.lit 0)], [(0, 23), (1, 23), (2, 2), (3, 2)], none, none, false, false, none, 32, false, none, false⟩),
 (27, ⟨true, 2, [.int .u64 (.lit 0), .int .u64 (.lit 0)], [(0, 23), (1, 23)], none, none, false, false, none, 16, false, none, false⟩),
 (29, ⟨true, 6, [.int .u64 (.lit 0), .int .u64 (.lit 0), .int .i64 (.lit 0), .int .i64 (.lit 0), .int .u64 (.lit 0), .int .u64 (.lit 0)], [(0, 25), (4, 27)], none, none, false, false, none, 48, false, none, false⟩)]
set_option maxRecDepth 100000 in
theorem tysck_VaA : (tys_VaA.all fun p => ckTI Try.prog p.1 p.2) = true := by kernel_rfl
theorem tyseq_VaA : (tys_VaA.all fun p => !p.2.eqok) = true := by kernel_rfl
theorem tyskn_VaA : (tys_VaA.all fun p => !p.2.keyok) = true := by kernel_rfl
theorem tysok_VaA : ∀ t i, (t, i) ∈ tys_VaA → TIok Try.prog t i := by
  intro t i h
  refine TIok_of (all_at (f := ckTI Try.prog) tysck_VaA h) (fun he => ?_) (fun he => ?_) (fun he => ?_)
  · have h1 := List.all_eq_true.1 tyseq_VaA (t, i) h
    simp [he] at h1
  · have h1 := List.all_eq_true.1 tyseq_VaA (t, i) h
    simp [he] at h1
  · have h1 := List.all_eq_true.1 tyskn_VaA (t, i) h
    simp [he] at h1
def sM_kmay (key : Nat) : Sm := ⟨44, key, [.agg kKn], [.one .bool], false⟩
def sV_kmay (a : Kn) : List Dt := [.z (b2i (kmay a))]
def sF_kmay : List Dt → List Dt
  | [.z x0, .z x1] => sV_kmay ⟨x0, x1⟩
  | _ => []
def sT_kmay : Tr :=
(.leaf (.consb (.eq (.bin .and .u64 (.var 0) (.var 1)) (.lit 0)) .nil))
def sP_kmay : Spec := ⟨fun k => match k with | _ => fun _ => [], fun k => match k with | _ => fun _ => True⟩
set_option maxRecDepth 100000 in
theorem sR_kmay : treeIs tys_VaA [] [] [] [] 200 Try.f44 [.agg kKn] [.one .bool] false [.int .u64, .int .u64] sT_kmay := ⟨by kernel_rfl, by kernel_rfl, by kernel_rfl⟩
set_option maxRecDepth 100000 in
set_option maxHeartbeats 8000000 in
theorem sX_kmay (a : Kn) (ha : Kn.ok a) (ρ : Env) (g : varsD ρ 0 [.int .u64, .int .u64] = [.z a.v, .z a.m]) : sT_kmay.asks sP_kmay (fun ρ e => e.D ρ = sF_kmay [.z a.v, .z a.m]) ρ fun _ _ => False := by
  simp only [varsD, varD, List.cons.injEq, Dt.z.injEq, Dt.l.injEq, b2i_eq_iff, Nat.reduceAdd, and_true] at g
  simp only [sT_kmay, sP_kmay, sF_kmay, sV_kmay, Tr.asks, upd_same, okDs, okD, eqs, E.I, E.B, E.L, E.R, E.D, E.vs, dI, dB, dL, varD, varsD, List.getElem?_cons_zero, List.getElem?_cons_succ, List.cons_append, List.nil_append, Nat.zero_add, Nat.add_zero, Nat.reduceAdd, and_true, true_and, b2i_one, -eq_self, Kn.eta, Sc.eta_r, Sc.eta_k, Sc.eta_2, g]
  · rfl
theorem sK_kmay {sp : Spec} {key : Nat} (hF : sp.F key = sF_kmay) (hP : sp.pre key = fun _ => True := by rfl) : SmOk Try.prog sp (sM_kmay key) :=
  fun_ok (s := sM_kmay key) hF hP (by kernel_rfl) tysok_VaA (sm0) Try.func44 fn0 sR_kmay (.inl rfl) (fun x0 gx0 x1 gx1 hp ρ g => sX_kmay ⟨x0, x1⟩ ⟨gx0, gx1⟩ ρ g)
def sM_kall (key : Nat) : Sm := ⟨47, key, [], [.agg kKn], false⟩
def sF_kall : List Dt → List Dt
  | [] => [.z kall.v, .z kall.m]
  | _ => []
def sT_kall : Tr :=
(.leaf (.cons (.lit 0) (.cons (.lit 18446744073709551615) .nil)))
def sP_kall : Spec := ⟨fun k => match k with | _ => fun _ => [], fun k => match k with | _ => fun _ => True⟩
set_option maxRecDepth 100000 in
theorem sR_kall : treeIs tys_VaA [] [] [] [] 200 Try.f47 [] [.agg kKn] false [] sT_kall := ⟨by kernel_rfl, by kernel_rfl, by kernel_rfl⟩
set_option maxRecDepth 100000 in
set_option maxHeartbeats 8000000 in
theorem sX_kall  (ρ : Env) (g : varsD ρ 0 [] = []) : sT_kall.asks sP_kall (fun ρ e => e.D ρ = sF_kall []) ρ fun _ _ => False := by
  simp only [sT_kall, sP_kall, sF_kall, Tr.asks, upd_same, okDs, okD, eqs, E.I, E.B, E.L, E.R, E.D, E.vs, dI, dB, dL, varD, varsD, List.getElem?_cons_zero, List.getElem?_cons_succ, List.cons_append, List.nil_append, Nat.zero_add, Nat.add_zero, Nat.reduceAdd, and_true, true_and, b2i_one, -eq_self, Sc.eta_r, Sc.eta_k, Sc.eta_2]
  · rfl
theorem sK_kall {sp : Spec} {key : Nat} (hF : sp.F key = sF_kall) (hP : sp.pre key = fun _ => True := by rfl) : SmOk Try.prog sp (sM_kall key) :=
  fun_ok (s := sM_kall key) hF hP (by kernel_rfl) tysok_VaA (sm0) Try.func47 fn0 sR_kall (.inl rfl) (fun  hp ρ g => sX_kall ρ g)
def sM_kone (key : Nat) : Sm := ⟨46, key, [.one (.int .u64)], [.agg kKn], false⟩
def sV_kone (v : Int) : List Dt := [.z ((kone v).v), .z ((kone v).m)]
def sF_kone : List Dt → List Dt
  | [.z x0] => sV_kone x0
  | _ => []
def sT_kone : Tr :=
(.leaf (.cons (.var 0) (.cons (.lit 0) .nil)))
def sP_kone : Spec := ⟨fun k => match k with | _ => fun _ => [], fun k => match k with | _ => fun _ => True⟩
set_option maxRecDepth 100000 in
theorem sR_kone : treeIs tys_VaA [] [] [] [] 200 Try.f46 [.one (.int .u64)] [.agg kKn] false [.int .u64] sT_kone := ⟨by kernel_rfl, by kernel_rfl, by kernel_rfl⟩
set_option maxRecDepth 100000 in
set_option maxHeartbeats 8000000 in
theorem sX_kone (v : Int) (hv : inK .u64 v = true) (ρ : Env) (g : varsD ρ 0 [.int .u64] = [.z v]) : sT_kone.asks sP_kone (fun ρ e => e.D ρ = sF_kone [.z v]) ρ fun _ _ => False := by
  simp only [varsD, varD, List.cons.injEq, Dt.z.injEq, Dt.l.injEq, b2i_eq_iff, Nat.reduceAdd, and_true] at g
  simp only [sT_kone, sP_kone, sF_kone, sV_kone, Tr.asks, upd_same, okDs, okD, eqs, E.I, E.B, E.L, E.R, E.D, E.vs, dI, dB, dL, varD, varsD, List.getElem?_cons_zero, List.getElem?_cons_succ, List.cons_append, List.nil_append, Nat.zero_add, Nat.add_zero, Nat.reduceAdd, and_true, true_and, b2i_one, -eq_self, Sc.eta_r, Sc.eta_k, Sc.eta_2, g]
  · rfl
theorem sK_kone {sp : Spec} {key : Nat} (hF : sp.F key = sF_kone) (hP : sp.pre key = fun _ => True := by rfl) : SmOk Try.prog sp (sM_kone key) :=
  fun_ok (s := sM_kone key) hF hP (by kernel_rfl) tysok_VaA (sm0) Try.func46 fn0 sR_kone (.inl rfl) (fun x0 gx0 hp ρ g => sX_kone x0 gx0 ρ g)
def sM_khas (key : Nat) : Sm := ⟨42, key, [.agg kKn, .one (.int .u64)], [.one .bool], false⟩
def sV_khas (a : Kn) (v : Int) : List Dt := [.z (b2i (khas a v))]
def sF_khas : List Dt → List Dt
  | [.z x0, .z x1, .z x2] => sV_khas ⟨x0, x1⟩ x2
  | _ => []
def sT_khas : Tr :=
(.call 0 ([.bool]) (.vs 0 2 .nil) 3
(.br (.bvar 3)
(.leaf (.consb (.eq (.bin .andNot .u64 (.var 2) (.var 1)) (.var 0)) .nil))
(.leaf (.consb (.tt false) .nil))))
def sP_khas : Spec := ⟨fun k => match k with | 0 => sF_kmay | _ => fun _ => [], fun k => match k with | _ => fun _ => True⟩
set_option maxRecDepth 100000 in
theorem sR_khas : treeIs tys_VaA [sM_kmay 0] [] [] [] 200 Try.f42 [.agg kKn, .one (.int .u64)] [.one .bool] false [.int .u64, .int .u64, .int .u64] sT_khas := ⟨by kernel_rfl, by kernel_rfl, by kernel_rfl⟩
set_option maxRecDepth 100000 in
set_option maxHeartbeats 8000000 in
theorem sX_khas (a : Kn) (ha : Kn.ok a) (v : Int) (hv : inK .u64 v = true) (ρ : Env) (g : varsD ρ 0 [.int .u64, .int .u64, .int .u64] = [.z a.v, .z a.m, .z v]) : sT_khas.asks sP_khas (fun ρ e => e.D ρ = sF_khas [.z a.v, .z a.m, .z v]) ρ fun _ _ => False := by
  simp only [varsD, varD, List.cons.injEq, Dt.z.injEq, Dt.l.injEq, b2i_eq_iff, Nat.reduceAdd, and_true] at g
  simp only [sT_khas, sP_khas, sF_kmay, sV_kmay, sF_khas, sV_khas, Tr.asks, upd_same, okDs, okD, eqs, E.I, E.B, E.L, E.R, E.D, E.vs, dI, dB, dL, varD, varsD, List.getElem?_cons_zero, List.getElem?_cons_succ, List.cons_append, List.nil_append, Nat.zero_add, Nat.add_zero, Nat.reduceAdd, and_true, true_and, b2i_one, -eq_self, Kn.eta, Pi.eta, Pu.eta, Rg.eta, Sc.eta, Sc.eta_r, Sc.eta_k, Sc.eta_2, g]
  intro e; (try simp only [e, Kn.eta, Pi.eta, Pu.eta, Rg.eta, Sc.eta, Sc.eta_r, Sc.eta_k, Sc.eta_2, -eq_self]); clear e
  refine ⟨fun c0 => ?_, fun c0 => ?_⟩
  · (unfold khas; simp_all [opI])
  · (unfold khas; simp_all [opI])
theorem sK_khas {sp : Spec} {key : Nat} (hF : sp.F key = sF_khas) (hP : sp.pre key = fun _ => True := by rfl) : SmOk Try.prog sp (sM_khas key) :=
  fun_ok (s := sM_khas key) hF hP (by kernel_rfl) tysok_VaA (smc (sK_kmay rfl) sm0) Try.func42 fn0 sR_khas (.inl rfl) (fun x0 gx0 x1 gx1 x2 gx2 hp ρ g => sX_khas ⟨x0, x1⟩ ⟨gx0, gx1⟩ x2 gx2 ρ g)
def sM_kmask (key : Nat) : Sm := ⟨54, key, [.one (.int .u64), .one (.int .u64)], [.agg kKn], false⟩
def sV_kmask (v : Int) (m : Int) : List Dt := [.z ((kmask v m).v), .z ((kmask v m).m)]
def sF_kmask : List Dt → List Dt
  | [.z x0, .z x1] => sV_kmask x0 x1
  | _ => []
def sT_kmask : Tr :=
(.leaf (.cons (.bin .andNot .u64 (.var 0) (.var 1)) (.cons (.var 1) .nil)))
def sP_kmask : Spec := ⟨fun k => match k with | _ => fun _ => [], fun k => match k with | _ => fun _ => True⟩
set_option maxRecDepth 100000 in
theorem sR_kmask : treeIs tys_VaA [] [] [] [] 200 Try.f54 [.one (.int .u64), .one (.int .u64)] [.agg kKn] false [.int .u64, .int .u64] sT_kmask := ⟨by kernel_rfl, by kernel_rfl, by kernel_rfl⟩
set_option maxRecDepth 100000 in
set_option maxHeartbeats 8000000 in
theorem sX_kmask (v : Int) (hv : inK .u64 v = true) (m : Int) (hm : inK .u64 m = true) (ρ : Env) (g : varsD ρ 0 [.int .u64, .int .u64] = [.z v, .z m]) : sT_kmask.asks sP_kmask (fun ρ e => e.D ρ = sF_kmask [.z v, .z m]) ρ fun _ _ => False := by
  simp only [varsD, varD, List.cons.injEq, Dt.z.injEq, Dt.l.injEq, b2i_eq_iff, Nat.reduceAdd, and_true] at g
  simp only [sT_kmask, sP_kmask, sF_kmask, sV_kmask, Tr.asks, upd_same, okDs, okD, eqs, E.I, E.B, E.L, E.R, E.D, E.vs, dI, dB, dL, varD, varsD, List.getElem?_cons_zero, List.getElem?_cons_succ, List.cons_append, List.nil_append, Nat.zero_add, Nat.add_zero, Nat.reduceAdd, and_true, true_and, b2i_one, -eq_self, Sc.eta_r, Sc.eta_k, Sc.eta_2, g]
  · rfl
theorem sK_kmask {sp : Spec} {key : Nat} (hF : sp.F key = sF_kmask) (hP : sp.pre key = fun _ => True := by rfl) : SmOk Try.prog sp (sM_kmask key) :=
  fun_ok (s := sM_kmask key) hF hP (by kernel_rfl) tysok_VaA (sm0) Try.func54 fn0 sR_kmask (.inl rfl) (fun x0 gx0 x1 gx1 hp ρ g => sX_kmask x0 gx0 x1 gx1 ρ g)
def sM_kjoin (key : Nat) : Sm := ⟨34, key, [.agg kKn, .agg kKn], [.agg kKn], false⟩
def sV_kjoin (a : Kn) (b : Kn) : List Dt := [.z ((kjoin a b).v), .z ((kjoin a b).m)]
def sF_kjoin : List Dt → List Dt
  | [.z x0, .z x1, .z x2, .z x3] => sV_kjoin ⟨x0, x1⟩ ⟨x2, x3⟩
  | _ => []
def sT_kjoin : Tr :=
(.call 0 ([.bool]) (.vs 0 2 .nil) 4
(.br (.bvar 4)
(.call 0 ([.bool]) (.vs 2 2 .nil) 5
(.br (.bvar 5)
(.call 2 (kKn) (.cons (.var 0) (.cons (.bin .or .u64 (.bin .or .u64 (.var 1) (.var 3)) (.bin .xor .u64 (.var 0) (.var 2))) .nil)) 6
(.leaf (.vs 6 2 .nil)))
(.call 1 (kKn) .nil 6
(.leaf (.vs 6 2 .nil)))))
(.call 1 (kKn) .nil 5
(.leaf (.vs 5 2 .nil)))))
def sP_kjoin : Spec := ⟨fun k => match k with | 0 => sF_kmay | 1 => sF_kall | 2 => sF_kmask | _ => fun _ => [], fun k => match k with | _ => fun _ => True⟩
set_option maxRecDepth 100000 in
theorem sR_kjoin : treeIs tys_VaA [sM_kmay 0, sM_kall 1, sM_kmask 2] [] [] [] 200 Try.f34 [.agg kKn, .agg kKn] [.agg kKn] false [.int .u64, .int .u64, .int .u64, .int .u64] sT_kjoin := ⟨by kernel_rfl, by kernel_rfl, by kernel_rfl⟩
set_option maxRecDepth 100000 in
set_option maxHeartbeats 8000000 in
theorem sX_kjoin (a : Kn) (ha : Kn.ok a) (b : Kn) (hb : Kn.ok b) (ρ : Env) (g : varsD ρ 0 [.int .u64, .int .u64, .int .u64, .int .u64] = [.z a.v, .z a.m, .z b.v, .z b.m]) : sT_kjoin.asks sP_kjoin (fun ρ e => e.D ρ = sF_kjoin [.z a.v, .z a.m, .z b.v, .z b.m]) ρ fun _ _ => False := by
  simp only [varsD, varD, List.cons.injEq, Dt.z.injEq, Dt.l.injEq, b2i_eq_iff, Nat.reduceAdd, and_true] at g
  simp only [sT_kjoin, sP_kjoin, kKn, sF_kmay, sF_kall, sF_kmask, sV_kmay, sV_kmask, sF_kjoin, sV_kjoin, Tr.asks, upd_same, okDs, okD, eqs, E.I, E.B, E.L, E.R, E.D, E.vs, dI, dB, dL, varD, varsD, List.getElem?_cons_zero, List.getElem?_cons_succ, List.cons_append, List.nil_append, Nat.zero_add, Nat.add_zero, Nat.reduceAdd, and_true, true_and, b2i_one, -eq_self, Kn.eta, Pi.eta, Pu.eta, Rg.eta, Sc.eta, Sc.eta_r, Sc.eta_k, Sc.eta_2, g]
  intro e; (try simp only [e, Kn.eta, Pi.eta, Pu.eta, Rg.eta, Sc.eta, Sc.eta_r, Sc.eta_k, Sc.eta_2, -eq_self]); clear e
  refine ⟨fun c0 => ?_, fun c0 => ?_⟩
  intro e; (try simp only [e, Kn.eta, Pi.eta, Pu.eta, Rg.eta, Sc.eta, Sc.eta_r, Sc.eta_k, Sc.eta_2, -eq_self]); clear e
  refine ⟨fun c1 => ?_, fun c1 => ?_⟩
  intro e; (try simp only [e, Kn.eta, Pi.eta, Pu.eta, Rg.eta, Sc.eta, Sc.eta_r, Sc.eta_k, Sc.eta_2, -eq_self]); clear e
  · (unfold kjoin; simp_all [opI])
  intro e; (try simp only [e, Kn.eta, Pi.eta, Pu.eta, Rg.eta, Sc.eta, Sc.eta_r, Sc.eta_k, Sc.eta_2, -eq_self]); clear e
  · (unfold kjoin; simp_all [opI])
  intro e; (try simp only [e, Kn.eta, Pi.eta, Pu.eta, Rg.eta, Sc.eta, Sc.eta_r, Sc.eta_k, Sc.eta_2, -eq_self]); clear e
  · (unfold kjoin; simp_all [opI])
theorem sK_kjoin {sp : Spec} {key : Nat} (hF : sp.F key = sF_kjoin) (hP : sp.pre key = fun _ => True := by rfl) : SmOk Try.prog sp (sM_kjoin key) :=
  fun_ok (s := sM_kjoin key) hF hP (by kernel_rfl) tysok_VaA (smc (sK_kmay rfl) (smc (sK_kall rfl) (smc (sK_kmask rfl) sm0))) Try.func34 fn0 sR_kjoin (.inl rfl) (fun x0 gx0 x1 gx1 x2 gx2 x3 gx3 hp ρ g => sX_kjoin ⟨x0, x1⟩ ⟨gx0, gx1⟩ ⟨x2, x3⟩ ⟨gx2, gx3⟩ ρ g)
def sM_kmeet (key : Nat) : Sm := ⟨63, key, [.agg kKn, .agg kKn], [.agg kKn, .one .bool], true⟩
def sV_kmeet (a : Kn) (b : Kn) : List Dt := [.z ((kmeet a b).v), .z ((kmeet a b).m), .z (b2i (kmeets a b))]
def sF_kmeet : List Dt → List Dt
  | [.z x0, .z x1, .z x2, .z x3] => sV_kmeet ⟨x0, x1⟩ ⟨x2, x3⟩
  | _ => []
def sT_kmeet : Tr :=
(.call 0 ([.bool]) (.vs 0 2 .nil) 4
(.br (.bvar 4)
(.call 0 ([.bool]) (.vs 2 2 .nil) 5
(.br (.bvar 5)
(.br (.eq (.bin .andNot .u64 (.bin .xor .u64 (.var 0) (.var 2)) (.bin .or .u64 (.var 1) (.var 3))) (.lit 0))
(.call 2 (kKn) (.cons (.bin .or .u64 (.var 0) (.var 2)) (.cons (.bin .and .u64 (.var 1) (.var 3)) .nil)) 6
(.leaf (.vs 6 2 (.consb (.tt true) .nil))))
(.call 1 (kKn) .nil 6
(.leaf (.vs 6 2 (.consb (.tt false) .nil)))))
(.call 1 (kKn) .nil 6
(.leaf (.vs 6 2 (.consb (.tt false) .nil))))))
(.call 1 (kKn) .nil 5
(.leaf (.vs 5 2 (.consb (.tt false) .nil))))))
def sP_kmeet : Spec := ⟨fun k => match k with | 0 => sF_kmay | 1 => sF_kall | 2 => sF_kmask | _ => fun _ => [], fun k => match k with | _ => fun _ => True⟩
set_option maxRecDepth 100000 in
theorem sR_kmeet : treeIs tys_VaA [sM_kmay 0, sM_kall 1, sM_kmask 2] [] [] [] 200 Try.f63 [.agg kKn, .agg kKn] [.agg kKn, .one .bool] true [.int .u64, .int .u64, .int .u64, .int .u64] sT_kmeet := ⟨by kernel_rfl, by kernel_rfl, by kernel_rfl⟩
set_option maxRecDepth 100000 in
set_option maxHeartbeats 8000000 in
theorem sX_kmeet (a : Kn) (ha : Kn.ok a) (b : Kn) (hb : Kn.ok b) (ρ : Env) (g : varsD ρ 0 [.int .u64, .int .u64, .int .u64, .int .u64] = [.z a.v, .z a.m, .z b.v, .z b.m]) : sT_kmeet.asks sP_kmeet (fun ρ e => e.D ρ = sF_kmeet [.z a.v, .z a.m, .z b.v, .z b.m]) ρ fun _ _ => False := by
  simp only [varsD, varD, List.cons.injEq, Dt.z.injEq, Dt.l.injEq, b2i_eq_iff, Nat.reduceAdd, and_true] at g
  simp only [sT_kmeet, sP_kmeet, kKn, sF_kmay, sF_kall, sF_kmask, sV_kmay, sV_kmask, sF_kmeet, sV_kmeet, Tr.asks, upd_same, okDs, okD, eqs, E.I, E.B, E.L, E.R, E.D, E.vs, dI, dB, dL, varD, varsD, List.getElem?_cons_zero, List.getElem?_cons_succ, List.cons_append, List.nil_append, Nat.zero_add, Nat.add_zero, Nat.reduceAdd, and_true, true_and, b2i_one, -eq_self, Kn.eta, Pi.eta, Pu.eta, Rg.eta, Sc.eta, Sc.eta_r, Sc.eta_k, Sc.eta_2, g]
  intro e; (try simp only [e, Kn.eta, Pi.eta, Pu.eta, Rg.eta, Sc.eta, Sc.eta_r, Sc.eta_k, Sc.eta_2, -eq_self]); clear e
  refine ⟨fun c0 => ?_, fun c0 => ?_⟩
  intro e; (try simp only [e, Kn.eta, Pi.eta, Pu.eta, Rg.eta, Sc.eta, Sc.eta_r, Sc.eta_k, Sc.eta_2, -eq_self]); clear e
  refine ⟨fun c1 => ?_, fun c1 => ?_⟩
  refine ⟨fun c2 => ?_, fun c2 => ?_⟩
  intro e; (try simp only [e, Kn.eta, Pi.eta, Pu.eta, Rg.eta, Sc.eta, Sc.eta_r, Sc.eta_k, Sc.eta_2, -eq_self]); clear e
  · (unfold kmeet kmeets kodds; simp_all [opI])
  intro e; (try simp only [e, Kn.eta, Pi.eta, Pu.eta, Rg.eta, Sc.eta, Sc.eta_r, Sc.eta_k, Sc.eta_2, -eq_self]); clear e
  · (unfold kmeet kmeets kodds; simp_all [opI])
  intro e; (try simp only [e, Kn.eta, Pi.eta, Pu.eta, Rg.eta, Sc.eta, Sc.eta_r, Sc.eta_k, Sc.eta_2, -eq_self]); clear e
  · (unfold kmeet kmeets kodds; simp_all [opI])
  intro e; (try simp only [e, Kn.eta, Pi.eta, Pu.eta, Rg.eta, Sc.eta, Sc.eta_r, Sc.eta_k, Sc.eta_2, -eq_self]); clear e
  · (unfold kmeet kmeets kodds; simp_all [opI])
theorem sK_kmeet {sp : Spec} {key : Nat} (hF : sp.F key = sF_kmeet) (hP : sp.pre key = fun _ => True := by rfl) : SmOk Try.prog sp (sM_kmeet key) :=
  fun_ok (s := sM_kmeet key) hF hP (by kernel_rfl) tysok_VaA (smc (sK_kmay rfl) (smc (sK_kall rfl) (smc (sK_kmask rfl) sm0))) Try.func63 fn0 sR_kmeet (.inl rfl) (fun x0 gx0 x1 gx1 x2 gx2 x3 gx3 hp ρ g => sX_kmeet ⟨x0, x1⟩ ⟨gx0, gx1⟩ ⟨x2, x3⟩ ⟨gx2, gx3⟩ ρ g)
def sM_vmay (key : Nat) : Sm := ⟨29, key, [.agg kSc], [.one .bool], false⟩
def sV_vmay (a : Sc) : List Dt := [.z (b2i (vmay a))]
def sF_vmay : List Dt → List Dt
  | [.z x0, .z x1, .z x2, .z x3, .z x4, .z x5] => sV_vmay ⟨x0, x1, x2, x3, x4, x5⟩
  | _ => []
def sT_vmay : Tr :=
(.call 0 ([.bool]) (.vs 0 4 .nil) 6
(.br (.bvar 6)
(.call 1 ([.bool]) (.vs 4 2 .nil) 7
(.leaf (.consb (.bvar 7) .nil)))
(.leaf (.consb (.tt false) .nil))))
def sP_vmay : Spec := ⟨fun k => match k with | 0 => sF_may | 1 => sF_kmay | _ => fun _ => [], fun k => match k with | _ => fun _ => True⟩
set_option maxRecDepth 100000 in
theorem sR_vmay : treeIs tys_VaA [sM_may 0, sM_kmay 1] [] [] [] 200 Try.f29 [.agg kSc] [.one .bool] false [.int .u64, .int .u64, .int .i64, .int .i64, .int .u64, .int .u64] sT_vmay := ⟨by kernel_rfl, by kernel_rfl, by kernel_rfl⟩
set_option maxRecDepth 100000 in
set_option maxHeartbeats 8000000 in
theorem sX_vmay (a : Sc) (ha : Sc.ok a) (ρ : Env) (g : varsD ρ 0 [.int .u64, .int .u64, .int .i64, .int .i64, .int .u64, .int .u64] = [.z a.ul, .z a.uh, .z a.sl, .z a.sh, .z a.v, .z a.m]) : sT_vmay.asks sP_vmay (fun ρ e => e.D ρ = sF_vmay [.z a.ul, .z a.uh, .z a.sl, .z a.sh, .z a.v, .z a.m]) ρ fun _ _ => False := by
  simp only [varsD, varD, List.cons.injEq, Dt.z.injEq, Dt.l.injEq, b2i_eq_iff, Nat.reduceAdd, and_true] at g
  simp only [sT_vmay, sP_vmay, sF_may, sF_kmay, sV_may, sV_kmay, sF_vmay, sV_vmay, Tr.asks, upd_same, okDs, okD, eqs, E.I, E.B, E.L, E.R, E.D, E.vs, dI, dB, dL, varD, varsD, List.getElem?_cons_zero, List.getElem?_cons_succ, List.cons_append, List.nil_append, Nat.zero_add, Nat.add_zero, Nat.reduceAdd, and_true, true_and, b2i_one, -eq_self, Kn.eta, Pi.eta, Pu.eta, Rg.eta, Sc.eta, Sc.eta_r, Sc.eta_k, Sc.eta_2, g]
  intro e; (try simp only [e, Kn.eta, Pi.eta, Pu.eta, Rg.eta, Sc.eta, Sc.eta_r, Sc.eta_k, Sc.eta_2, -eq_self]); clear e
  refine ⟨fun c0 => ?_, fun c0 => ?_⟩
  intro e; (try simp only [e, Kn.eta, Pi.eta, Pu.eta, Rg.eta, Sc.eta, Sc.eta_r, Sc.eta_k, Sc.eta_2, -eq_self]); clear e
  · (unfold vmay; simp_all)
  · (unfold vmay; simp_all)
theorem sK_vmay {sp : Spec} {key : Nat} (hF : sp.F key = sF_vmay) (hP : sp.pre key = fun _ => True := by rfl) : SmOk Try.prog sp (sM_vmay key) :=
  fun_ok (s := sM_vmay key) hF hP (by kernel_rfl) tysok_VaA (smc (sK_may rfl) (smc (sK_kmay rfl) sm0)) Try.func29 fn0 sR_vmay (.inl rfl) (fun x0 gx0 x1 gx1 x2 gx2 x3 gx3 x4 gx4 x5 gx5 hp ρ g => sX_vmay ⟨x0, x1, x2, x3, x4, x5⟩ ⟨gx0, gx1, gx2, gx3, gx4, gx5⟩ ρ g)
def sM_vall (key : Nat) : Sm := ⟨31, key, [], [.agg kSc], false⟩
def sF_vall : List Dt → List Dt
  | [] => [.z vall.ul, .z vall.uh, .z vall.sl, .z vall.sh, .z vall.v, .z vall.m]
  | _ => []
def sT_vall : Tr :=
(.call 0 (kRg) .nil 0
(.call 1 (kKn) .nil 4
(.leaf (.vs 0 6 .nil))))
def sP_vall : Spec := ⟨fun k => match k with | 0 => sF_all | 1 => sF_kall | _ => fun _ => [], fun k => match k with | _ => fun _ => True⟩
set_option maxRecDepth 100000 in
theorem sR_vall : treeIs tys_VaA [sM_all 0, sM_kall 1] [] [] [] 200 Try.f31 [] [.agg kSc] false [] sT_vall := ⟨by kernel_rfl, by kernel_rfl, by kernel_rfl⟩
set_option maxRecDepth 100000 in
set_option maxHeartbeats 8000000 in
theorem sX_vall  (ρ : Env) (g : varsD ρ 0 [] = []) : sT_vall.asks sP_vall (fun ρ e => e.D ρ = sF_vall []) ρ fun _ _ => False := by
  simp only [sT_vall, sP_vall, kKn, kRg, sF_all, sF_kall, sF_vall, Tr.asks, upd_same, okDs, okD, eqs, E.I, E.B, E.L, E.R, E.D, E.vs, dI, dB, dL, varD, varsD, List.getElem?_cons_zero, List.getElem?_cons_succ, List.cons_append, List.nil_append, Nat.zero_add, Nat.add_zero, Nat.reduceAdd, and_true, true_and, b2i_one, -eq_self, Kn.eta, Pi.eta, Pu.eta, Rg.eta, Sc.eta, Sc.eta_r, Sc.eta_k, Sc.eta_2]
  intro e; (try simp only [e, Kn.eta, Pi.eta, Pu.eta, Rg.eta, Sc.eta, Sc.eta_r, Sc.eta_k, Sc.eta_2, -eq_self]); clear e
  intro e; (try simp only [e, Kn.eta, Pi.eta, Pu.eta, Rg.eta, Sc.eta, Sc.eta_r, Sc.eta_k, Sc.eta_2, -eq_self]); clear e
  · rfl
theorem sK_vall {sp : Spec} {key : Nat} (hF : sp.F key = sF_vall) (hP : sp.pre key = fun _ => True := by rfl) : SmOk Try.prog sp (sM_vall key) :=
  fun_ok (s := sM_vall key) hF hP (by kernel_rfl) tysok_VaA (smc (sK_all rfl) (smc (sK_kall rfl) sm0)) Try.func31 fn0 sR_vall (.inl rfl) (fun  hp ρ g => sX_vall ρ g)
def sM_vone (key : Nat) : Sm := ⟨30, key, [.one (.int .u64)], [.agg kSc], false⟩
def sV_vone (v : Int) : List Dt := [.z ((vone v).ul), .z ((vone v).uh), .z ((vone v).sl), .z ((vone v).sh), .z ((vone v).v), .z ((vone v).m)]
def sF_vone : List Dt → List Dt
  | [.z x0] => sV_vone x0
  | _ => []
def sT_vone : Tr :=
(.call 0 (kRg) (.cons (.var 0) .nil) 1
(.call 1 (kKn) (.cons (.var 0) .nil) 5
(.leaf (.vs 1 6 .nil))))
def sP_vone : Spec := ⟨fun k => match k with | 0 => sF_one | 1 => sF_kone | _ => fun _ => [], fun k => match k with | _ => fun _ => True⟩
set_option maxRecDepth 100000 in
theorem sR_vone : treeIs tys_VaA [sM_one 0, sM_kone 1] [] [] [] 200 Try.f30 [.one (.int .u64)] [.agg kSc] false [.int .u64] sT_vone := ⟨by kernel_rfl, by kernel_rfl, by kernel_rfl⟩
set_option maxRecDepth 100000 in
set_option maxHeartbeats 8000000 in
theorem sX_vone (v : Int) (hv : inK .u64 v = true) (ρ : Env) (g : varsD ρ 0 [.int .u64] = [.z v]) : sT_vone.asks sP_vone (fun ρ e => e.D ρ = sF_vone [.z v]) ρ fun _ _ => False := by
  simp only [varsD, varD, List.cons.injEq, Dt.z.injEq, Dt.l.injEq, b2i_eq_iff, Nat.reduceAdd, and_true] at g
  simp only [sT_vone, sP_vone, kKn, kRg, sF_one, sF_kone, sV_one, sV_kone, sF_vone, sV_vone, Tr.asks, upd_same, okDs, okD, eqs, E.I, E.B, E.L, E.R, E.D, E.vs, dI, dB, dL, varD, varsD, List.getElem?_cons_zero, List.getElem?_cons_succ, List.cons_append, List.nil_append, Nat.zero_add, Nat.add_zero, Nat.reduceAdd, and_true, true_and, b2i_one, -eq_self, Kn.eta, Pi.eta, Pu.eta, Rg.eta, Sc.eta, Sc.eta_r, Sc.eta_k, Sc.eta_2, g]
  intro e; (try simp only [e, Kn.eta, Pi.eta, Pu.eta, Rg.eta, Sc.eta, Sc.eta_r, Sc.eta_k, Sc.eta_2, -eq_self]); clear e
  intro e; (try simp only [e, Kn.eta, Pi.eta, Pu.eta, Rg.eta, Sc.eta, Sc.eta_r, Sc.eta_k, Sc.eta_2, -eq_self]); clear e
  · rfl
theorem sK_vone {sp : Spec} {key : Nat} (hF : sp.F key = sF_vone) (hP : sp.pre key = fun _ => True := by rfl) : SmOk Try.prog sp (sM_vone key) :=
  fun_ok (s := sM_vone key) hF hP (by kernel_rfl) tysok_VaA (smc (sK_one rfl) (smc (sK_kone rfl) sm0)) Try.func30 fn0 sR_vone (.inl rfl) (fun x0 gx0 hp ρ g => sX_vone x0 gx0 ρ g)
def sM_vhas (key : Nat) : Sm := ⟨28, key, [.agg kSc, .one (.int .u64)], [.one .bool], false⟩
def sV_vhas (a : Sc) (v : Int) : List Dt := [.z (b2i (vhas a v))]
def sF_vhas : List Dt → List Dt
  | [.z x0, .z x1, .z x2, .z x3, .z x4, .z x5, .z x6] => sV_vhas ⟨x0, x1, x2, x3, x4, x5⟩ x6
  | _ => []
def sT_vhas : Tr :=
(.call 0 ([.bool]) (.vs 0 6 .nil) 7
(.br (.bvar 7)
(.call 1 ([.bool]) (.vs 0 4 (.cons (.var 6) .nil)) 8
(.br (.bvar 8)
(.call 2 ([.bool]) (.vs 4 3 .nil) 9
(.leaf (.consb (.bvar 9) .nil)))
(.leaf (.consb (.tt false) .nil))))
(.leaf (.consb (.tt false) .nil))))
def sP_vhas : Spec := ⟨fun k => match k with | 0 => sF_vmay | 1 => sF_has | 2 => sF_khas | _ => fun _ => [], fun k => match k with | _ => fun _ => True⟩
set_option maxRecDepth 100000 in
theorem sR_vhas : treeIs tys_VaA [sM_vmay 0, sM_has 1, sM_khas 2] [] [] [] 200 Try.f28 [.agg kSc, .one (.int .u64)] [.one .bool] false [.int .u64, .int .u64, .int .i64, .int .i64, .int .u64, .int .u64, .int .u64] sT_vhas := ⟨by kernel_rfl, by kernel_rfl, by kernel_rfl⟩
set_option maxRecDepth 100000 in
set_option maxHeartbeats 8000000 in
theorem sX_vhas (a : Sc) (ha : Sc.ok a) (v : Int) (hv : inK .u64 v = true) (ρ : Env) (g : varsD ρ 0 [.int .u64, .int .u64, .int .i64, .int .i64, .int .u64, .int .u64, .int .u64] = [.z a.ul, .z a.uh, .z a.sl, .z a.sh, .z a.v, .z a.m, .z v]) : sT_vhas.asks sP_vhas (fun ρ e => e.D ρ = sF_vhas [.z a.ul, .z a.uh, .z a.sl, .z a.sh, .z a.v, .z a.m, .z v]) ρ fun _ _ => False := by
  simp only [varsD, varD, List.cons.injEq, Dt.z.injEq, Dt.l.injEq, b2i_eq_iff, Nat.reduceAdd, and_true] at g
  simp only [sT_vhas, sP_vhas, sF_vmay, sF_has, sF_khas, sV_vmay, sV_has, sV_khas, sF_vhas, sV_vhas, Tr.asks, upd_same, okDs, okD, eqs, E.I, E.B, E.L, E.R, E.D, E.vs, dI, dB, dL, varD, varsD, List.getElem?_cons_zero, List.getElem?_cons_succ, List.cons_append, List.nil_append, Nat.zero_add, Nat.add_zero, Nat.reduceAdd, and_true, true_and, b2i_one, -eq_self, Kn.eta, Pi.eta, Pu.eta, Rg.eta, Sc.eta, Sc.eta_r, Sc.eta_k, Sc.eta_2, g]
  intro e; (try simp only [e, Kn.eta, Pi.eta, Pu.eta, Rg.eta, Sc.eta, Sc.eta_r, Sc.eta_k, Sc.eta_2, -eq_self]); clear e
  refine ⟨fun c0 => ?_, fun c0 => ?_⟩
  intro e; (try simp only [e, Kn.eta, Pi.eta, Pu.eta, Rg.eta, Sc.eta, Sc.eta_r, Sc.eta_k, Sc.eta_2, -eq_self]); clear e
  refine ⟨fun c1 => ?_, fun c1 => ?_⟩
  intro e; (try simp only [e, Kn.eta, Pi.eta, Pu.eta, Rg.eta, Sc.eta, Sc.eta_r, Sc.eta_k, Sc.eta_2, -eq_self]); clear e
  · (unfold vhas; simp_all)
  · (unfold vhas; simp_all)
  · (unfold vhas; simp_all)
theorem sK_vhas {sp : Spec} {key : Nat} (hF : sp.F key = sF_vhas) (hP : sp.pre key = fun _ => True := by rfl) : SmOk Try.prog sp (sM_vhas key) :=
  fun_ok (s := sM_vhas key) hF hP (by kernel_rfl) tysok_VaA (smc (sK_vmay rfl) (smc (sK_has rfl) (smc (sK_khas rfl) sm0))) Try.func28 fn0 sR_vhas (.inl rfl) (fun x0 gx0 x1 gx1 x2 gx2 x3 gx3 x4 gx4 x5 gx5 x6 gx6 hp ρ g => sX_vhas ⟨x0, x1, x2, x3, x4, x5⟩ ⟨gx0, gx1, gx2, gx3, gx4, gx5⟩ x6 gx6 ρ g)
end Go.Proofs.Ytgfghplnankgnaa

