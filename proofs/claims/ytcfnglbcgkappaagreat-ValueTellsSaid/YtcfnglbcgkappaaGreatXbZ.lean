/- Texts XbA, XbB, XbL, XbG in one. -/
import Derived.Test.YtcfnglbcgkappaaGreatSyZc
import Derived.Test.YtcfnglbcgkappaaGreatBdG
import Derived.Test.YtcfnglbcgkappaaGreatProg
import Derived.Laws.Externs
/- Contracts of the small functions of package bounds, by the symbolic run. -/
set_option linter.unusedVariables false
set_option linter.unusedSimpArgs false
namespace Go.Proofs.YtcfnglbcgkappaaGreat
open Go.RowKit Go.ChangeShapes Go.WideShapes

structure Pu where
  lo : Int
  hi : Int
structure Pi where
  lo : Int
  hi : Int
theorem Rg.eta (a : Rg) : (⟨a.ul, a.uh, a.sl, a.sh⟩ : Rg) = a := rfl
def Rg.ok (a : Rg) : Prop := inK .u64 a.ul = true ∧ inK .u64 a.uh = true ∧ inK .i64 a.sl = true ∧ inK .i64 a.sh = true
def kRg : List CK := [.int .u64, .int .u64, .int .i64, .int .i64]
theorem Pu.eta (a : Pu) : (⟨a.lo, a.hi⟩ : Pu) = a := rfl
def Pu.ok (a : Pu) : Prop := inK .u64 a.lo = true ∧ inK .u64 a.hi = true
def kPu : List CK := [.int .u64, .int .u64]
theorem Pi.eta (a : Pi) : (⟨a.lo, a.hi⟩ : Pi) = a := rfl
def Pi.ok (a : Pi) : Prop := inK .i64 a.lo = true ∧ inK .i64 a.hi = true
def kPi : List CK := [.int .i64, .int .i64]
def tys_XbA : List (Nat × TI) := [(2, ⟨false, 1, [.int .i64 (.lit 0)], [], none, some .i64, false, false, none, 8, false⟩),
 (23, ⟨false, 1, [.int .u64 (.lit 0)], [], none, some .u64, false, false, none, 8, false⟩),
 (25, ⟨true, 4, [.int .u64 (.lit 0), .int .u64 (.lit 0), .int .i64 (.lit 0), .int .i64 (.lit 0)], [(0, 23), (1, 23), (2, 2), (3, 2)], none, none, false, false, none, 32, false⟩),
 (79, ⟨true, 2, [.int .u64 (.lit 0), .int .u64 (.lit 0)], [(0, 23), (1, 23)], none, none, false, false, none, 16, false⟩),
 (81, ⟨true, 2, [.int .i64 (.lit 0), .int .i64 (.lit 0)], [(0, 2), (1, 2)], none, none, false, false, none, 16, false⟩)]
set_option maxRecDepth 100000 in
theorem tysck_XbA : (tys_XbA.all fun p => ckTI Tryz.prog p.1 p.2) = true := by kernel_rfl
theorem tysne_XbA : (tys_XbA.all fun p => !p.2.eqok) = true := by kernel_rfl
theorem tysok_XbA : ∀ t i, (t, i) ∈ tys_XbA → TIok Tryz.prog t i := by
  intro t i h
  have h1 := all_at (f := fun _ i => !i.eqok) tysne_XbA h
  exact TIok_of (all_at (f := ckTI Tryz.prog) tysck_XbA h) (fun he => by simp [he] at h1) (fun he => by simp [he] at h1)
def sM_uns (key : Nat) : Sm := ⟨82, key, [.agg kRg], [.agg kPu], false⟩
def sV_uns (a : Rg) : List Dt := [.z (((⟨a.ul, a.uh⟩ : Pu)).lo), .z (((⟨a.ul, a.uh⟩ : Pu)).hi)]
def sF_uns : List Dt → List Dt
  | [.z x0, .z x1, .z x2, .z x3] => sV_uns ⟨x0, x1, x2, x3⟩
  | _ => []
def sT_uns : Tr :=
(.leaf (.vs 0 2 .nil))
def sP_uns : Spec := ⟨fun k => match k with | _ => fun _ => [], fun k => match k with | _ => fun _ => True⟩
set_option maxRecDepth 100000 in
theorem sR_uns : treeIs tys_XbA [] [] [] 200 Tryz.f82 [.agg kRg] [.agg kPu] false [.int .u64, .int .u64, .int .i64, .int .i64] sT_uns := ⟨by kernel_rfl, by kernel_rfl, by kernel_rfl⟩
set_option maxRecDepth 100000 in
set_option maxHeartbeats 8000000 in
theorem sX_uns (a : Rg) (ha : Rg.ok a) (ρ : Env) (g : varsD ρ 0 [.int .u64, .int .u64, .int .i64, .int .i64] = [.z a.ul, .z a.uh, .z a.sl, .z a.sh]) : sT_uns.asks sP_uns (fun ρ e => e.D ρ = sF_uns [.z a.ul, .z a.uh, .z a.sl, .z a.sh]) ρ fun _ _ => False := by
  simp only [varsD, varD, List.cons.injEq, Dt.z.injEq, Dt.l.injEq, b2i_eq_iff, Nat.reduceAdd, and_true] at g
  simp only [sT_uns, sP_uns, sF_uns, sV_uns, Tr.asks, upd_same, okDs, okD, eqs, E.I, E.B, E.L, E.R, E.D, E.vs, dI, dB, dL, varD, varsD, List.getElem?_cons_zero, List.getElem?_cons_succ, List.cons_append, List.nil_append, Nat.zero_add, Nat.add_zero, Nat.reduceAdd, and_true, true_and, b2i_one, -eq_self, Rg.eta, g]
  rfl
theorem sK_uns {sp : Spec} {key : Nat} (hF : sp.F key = sF_uns) (hP : sp.pre key = fun _ => True := by rfl) : SmOk Tryz.prog sp (sM_uns key) :=
  fun_ok (s := sM_uns key) hF hP (by kernel_rfl) tysok_XbA (sm0) Tryz.func82 sR_uns (.inl rfl) (fun x0 gx0 x1 gx1 x2 gx2 x3 gx3 hp ρ g => sX_uns ⟨x0, x1, x2, x3⟩ ⟨gx0, gx1, gx2, gx3⟩ ρ g)
def sM_sig (key : Nat) : Sm := ⟨84, key, [.agg kRg], [.agg kPi], false⟩
def sV_sig (a : Rg) : List Dt := [.z (((⟨a.sl, a.sh⟩ : Pi)).lo), .z (((⟨a.sl, a.sh⟩ : Pi)).hi)]
def sF_sig : List Dt → List Dt
  | [.z x0, .z x1, .z x2, .z x3] => sV_sig ⟨x0, x1, x2, x3⟩
  | _ => []
def sT_sig : Tr :=
(.leaf (.vs 2 2 .nil))
def sP_sig : Spec := ⟨fun k => match k with | _ => fun _ => [], fun k => match k with | _ => fun _ => True⟩
set_option maxRecDepth 100000 in
theorem sR_sig : treeIs tys_XbA [] [] [] 200 Tryz.f84 [.agg kRg] [.agg kPi] false [.int .u64, .int .u64, .int .i64, .int .i64] sT_sig := ⟨by kernel_rfl, by kernel_rfl, by kernel_rfl⟩
set_option maxRecDepth 100000 in
set_option maxHeartbeats 8000000 in
theorem sX_sig (a : Rg) (ha : Rg.ok a) (ρ : Env) (g : varsD ρ 0 [.int .u64, .int .u64, .int .i64, .int .i64] = [.z a.ul, .z a.uh, .z a.sl, .z a.sh]) : sT_sig.asks sP_sig (fun ρ e => e.D ρ = sF_sig [.z a.ul, .z a.uh, .z a.sl, .z a.sh]) ρ fun _ _ => False := by
  simp only [varsD, varD, List.cons.injEq, Dt.z.injEq, Dt.l.injEq, b2i_eq_iff, Nat.reduceAdd, and_true] at g
  simp only [sT_sig, sP_sig, sF_sig, sV_sig, Tr.asks, upd_same, okDs, okD, eqs, E.I, E.B, E.L, E.R, E.D, E.vs, dI, dB, dL, varD, varsD, List.getElem?_cons_zero, List.getElem?_cons_succ, List.cons_append, List.nil_append, Nat.zero_add, Nat.add_zero, Nat.reduceAdd, and_true, true_and, b2i_one, -eq_self, Rg.eta, g]
  rfl
theorem sK_sig {sp : Spec} {key : Nat} (hF : sp.F key = sF_sig) (hP : sp.pre key = fun _ => True := by rfl) : SmOk Tryz.prog sp (sM_sig key) :=
  fun_ok (s := sM_sig key) hF hP (by kernel_rfl) tysok_XbA (sm0) Tryz.func84 sR_sig (.inl rfl) (fun x0 gx0 x1 gx1 x2 gx2 x3 gx3 hp ρ g => sX_sig ⟨x0, x1, x2, x3⟩ ⟨gx0, gx1, gx2, gx3⟩ ρ g)
def sM_umay (key : Nat) : Sm := ⟨97, key, [.agg kPu], [.one .bool], false⟩
def sV_umay (a : Pu) : List Dt := [.z (b2i (decide (a.lo ≤ a.hi)))]
def sF_umay : List Dt → List Dt
  | [.z x0, .z x1] => sV_umay ⟨x0, x1⟩
  | _ => []
def sT_umay : Tr :=
(.leaf (.consb (.not (.lt (.var 1) (.var 0))) .nil))
def sP_umay : Spec := ⟨fun k => match k with | _ => fun _ => [], fun k => match k with | _ => fun _ => True⟩
set_option maxRecDepth 100000 in
theorem sR_umay : treeIs tys_XbA [] [] [] 200 Tryz.f97 [.agg kPu] [.one .bool] false [.int .u64, .int .u64] sT_umay := ⟨by kernel_rfl, by kernel_rfl, by kernel_rfl⟩
set_option maxRecDepth 100000 in
set_option maxHeartbeats 8000000 in
theorem sX_umay (a : Pu) (ha : Pu.ok a) (ρ : Env) (g : varsD ρ 0 [.int .u64, .int .u64] = [.z a.lo, .z a.hi]) : sT_umay.asks sP_umay (fun ρ e => e.D ρ = sF_umay [.z a.lo, .z a.hi]) ρ fun _ _ => False := by
  simp only [varsD, varD, List.cons.injEq, Dt.z.injEq, Dt.l.injEq, b2i_eq_iff, Nat.reduceAdd, and_true] at g
  simp only [sT_umay, sP_umay, sF_umay, sV_umay, Tr.asks, upd_same, okDs, okD, eqs, E.I, E.B, E.L, E.R, E.D, E.vs, dI, dB, dL, varD, varsD, List.getElem?_cons_zero, List.getElem?_cons_succ, List.cons_append, List.nil_append, Nat.zero_add, Nat.add_zero, Nat.reduceAdd, and_true, true_and, b2i_one, -eq_self, Pu.eta, g]
  simp [not_lt_le]
theorem sK_umay {sp : Spec} {key : Nat} (hF : sp.F key = sF_umay) (hP : sp.pre key = fun _ => True := by rfl) : SmOk Tryz.prog sp (sM_umay key) :=
  fun_ok (s := sM_umay key) hF hP (by kernel_rfl) tysok_XbA (sm0) Tryz.func97 sR_umay (.inl rfl) (fun x0 gx0 x1 gx1 hp ρ g => sX_umay ⟨x0, x1⟩ ⟨gx0, gx1⟩ ρ g)
def sM_imay (key : Nat) : Sm := ⟨98, key, [.agg kPi], [.one .bool], false⟩
def sV_imay (a : Pi) : List Dt := [.z (b2i (decide (a.lo ≤ a.hi)))]
def sF_imay : List Dt → List Dt
  | [.z x0, .z x1] => sV_imay ⟨x0, x1⟩
  | _ => []
def sT_imay : Tr :=
(.leaf (.consb (.not (.lt (.var 1) (.var 0))) .nil))
def sP_imay : Spec := ⟨fun k => match k with | _ => fun _ => [], fun k => match k with | _ => fun _ => True⟩
set_option maxRecDepth 100000 in
theorem sR_imay : treeIs tys_XbA [] [] [] 200 Tryz.f98 [.agg kPi] [.one .bool] false [.int .i64, .int .i64] sT_imay := ⟨by kernel_rfl, by kernel_rfl, by kernel_rfl⟩
set_option maxRecDepth 100000 in
set_option maxHeartbeats 8000000 in
theorem sX_imay (a : Pi) (ha : Pi.ok a) (ρ : Env) (g : varsD ρ 0 [.int .i64, .int .i64] = [.z a.lo, .z a.hi]) : sT_imay.asks sP_imay (fun ρ e => e.D ρ = sF_imay [.z a.lo, .z a.hi]) ρ fun _ _ => False := by
  simp only [varsD, varD, List.cons.injEq, Dt.z.injEq, Dt.l.injEq, b2i_eq_iff, Nat.reduceAdd, and_true] at g
  simp only [sT_imay, sP_imay, sF_imay, sV_imay, Tr.asks, upd_same, okDs, okD, eqs, E.I, E.B, E.L, E.R, E.D, E.vs, dI, dB, dL, varD, varsD, List.getElem?_cons_zero, List.getElem?_cons_succ, List.cons_append, List.nil_append, Nat.zero_add, Nat.add_zero, Nat.reduceAdd, and_true, true_and, b2i_one, -eq_self, Pi.eta, g]
  simp [not_lt_le]
theorem sK_imay {sp : Spec} {key : Nat} (hF : sp.F key = sF_imay) (hP : sp.pre key = fun _ => True := by rfl) : SmOk Tryz.prog sp (sM_imay key) :=
  fun_ok (s := sM_imay key) hF hP (by kernel_rfl) tysok_XbA (sm0) Tryz.func98 sR_imay (.inl rfl) (fun x0 gx0 x1 gx1 hp ρ g => sX_imay ⟨x0, x1⟩ ⟨gx0, gx1⟩ ρ g)
def sM_uhas (key : Nat) : Sm := ⟨100, key, [.agg kPu, .one (.int .u64)], [.one .bool], false⟩
def sV_uhas (a : Pu) (v : Int) : List Dt := [.z (b2i ((decide (a.lo ≤ v) && decide (v ≤ a.hi))))]
def sF_uhas : List Dt → List Dt
  | [.z x0, .z x1, .z x2] => sV_uhas ⟨x0, x1⟩ x2
  | _ => []
def sT_uhas : Tr :=
(.br (.lt (.var 2) (.var 0))
(.leaf (.consb (.tt false) .nil))
(.leaf (.consb (.not (.lt (.var 1) (.var 2))) .nil)))
def sP_uhas : Spec := ⟨fun k => match k with | _ => fun _ => [], fun k => match k with | _ => fun _ => True⟩
set_option maxRecDepth 100000 in
theorem sR_uhas : treeIs tys_XbA [] [] [] 200 Tryz.f100 [.agg kPu, .one (.int .u64)] [.one .bool] false [.int .u64, .int .u64, .int .u64] sT_uhas := ⟨by kernel_rfl, by kernel_rfl, by kernel_rfl⟩
set_option maxRecDepth 100000 in
set_option maxHeartbeats 8000000 in
theorem sX_uhas (a : Pu) (ha : Pu.ok a) (v : Int) (hv : inK .u64 v = true) (ρ : Env) (g : varsD ρ 0 [.int .u64, .int .u64, .int .u64] = [.z a.lo, .z a.hi, .z v]) : sT_uhas.asks sP_uhas (fun ρ e => e.D ρ = sF_uhas [.z a.lo, .z a.hi, .z v]) ρ fun _ _ => False := by
  simp only [varsD, varD, List.cons.injEq, Dt.z.injEq, Dt.l.injEq, b2i_eq_iff, Nat.reduceAdd, and_true] at g
  simp only [sT_uhas, sP_uhas, sF_uhas, sV_uhas, Tr.asks, upd_same, okDs, okD, eqs, E.I, E.B, E.L, E.R, E.D, E.vs, dI, dB, dL, varD, varsD, List.getElem?_cons_zero, List.getElem?_cons_succ, List.cons_append, List.nil_append, Nat.zero_add, Nat.add_zero, Nat.reduceAdd, and_true, true_and, b2i_one, -eq_self, Pu.eta, g]
  refine ⟨fun c0 => ?_, fun c0 => ?_⟩
  simp_all [not_lt_le]
  simp_all [not_lt_le]
theorem sK_uhas {sp : Spec} {key : Nat} (hF : sp.F key = sF_uhas) (hP : sp.pre key = fun _ => True := by rfl) : SmOk Tryz.prog sp (sM_uhas key) :=
  fun_ok (s := sM_uhas key) hF hP (by kernel_rfl) tysok_XbA (sm0) Tryz.func100 sR_uhas (.inl rfl) (fun x0 gx0 x1 gx1 x2 gx2 hp ρ g => sX_uhas ⟨x0, x1⟩ ⟨gx0, gx1⟩ x2 gx2 ρ g)
def sM_ihas (key : Nat) : Sm := ⟨101, key, [.agg kPi, .one (.int .i64)], [.one .bool], false⟩
def sV_ihas (a : Pi) (v : Int) : List Dt := [.z (b2i ((decide (a.lo ≤ v) && decide (v ≤ a.hi))))]
def sF_ihas : List Dt → List Dt
  | [.z x0, .z x1, .z x2] => sV_ihas ⟨x0, x1⟩ x2
  | _ => []
def sT_ihas : Tr :=
(.br (.lt (.var 2) (.var 0))
(.leaf (.consb (.tt false) .nil))
(.leaf (.consb (.not (.lt (.var 1) (.var 2))) .nil)))
def sP_ihas : Spec := ⟨fun k => match k with | _ => fun _ => [], fun k => match k with | _ => fun _ => True⟩
set_option maxRecDepth 100000 in
theorem sR_ihas : treeIs tys_XbA [] [] [] 200 Tryz.f101 [.agg kPi, .one (.int .i64)] [.one .bool] false [.int .i64, .int .i64, .int .i64] sT_ihas := ⟨by kernel_rfl, by kernel_rfl, by kernel_rfl⟩
set_option maxRecDepth 100000 in
set_option maxHeartbeats 8000000 in
theorem sX_ihas (a : Pi) (ha : Pi.ok a) (v : Int) (hv : inK .i64 v = true) (ρ : Env) (g : varsD ρ 0 [.int .i64, .int .i64, .int .i64] = [.z a.lo, .z a.hi, .z v]) : sT_ihas.asks sP_ihas (fun ρ e => e.D ρ = sF_ihas [.z a.lo, .z a.hi, .z v]) ρ fun _ _ => False := by
  simp only [varsD, varD, List.cons.injEq, Dt.z.injEq, Dt.l.injEq, b2i_eq_iff, Nat.reduceAdd, and_true] at g
  simp only [sT_ihas, sP_ihas, sF_ihas, sV_ihas, Tr.asks, upd_same, okDs, okD, eqs, E.I, E.B, E.L, E.R, E.D, E.vs, dI, dB, dL, varD, varsD, List.getElem?_cons_zero, List.getElem?_cons_succ, List.cons_append, List.nil_append, Nat.zero_add, Nat.add_zero, Nat.reduceAdd, and_true, true_and, b2i_one, -eq_self, Pi.eta, g]
  refine ⟨fun c0 => ?_, fun c0 => ?_⟩
  simp_all [not_lt_le]
  simp_all [not_lt_le]
theorem sK_ihas {sp : Spec} {key : Nat} (hF : sp.F key = sF_ihas) (hP : sp.pre key = fun _ => True := by rfl) : SmOk Tryz.prog sp (sM_ihas key) :=
  fun_ok (s := sM_ihas key) hF hP (by kernel_rfl) tysok_XbA (sm0) Tryz.func101 sR_ihas (.inl rfl) (fun x0 gx0 x1 gx1 x2 gx2 hp ρ g => sX_ihas ⟨x0, x1⟩ ⟨gx0, gx1⟩ x2 gx2 ρ g)
def sM_umeet (key : Nat) : Sm := ⟨83, key, [.agg kPu, .agg kPu], [.agg kPu], false⟩
def sV_umeet (a : Pu) (b : Pu) : List Dt := [.z (((⟨max a.lo b.lo, min a.hi b.hi⟩ : Pu)).lo), .z (((⟨max a.lo b.lo, min a.hi b.hi⟩ : Pu)).hi)]
def sF_umeet : List Dt → List Dt
  | [.z x0, .z x1, .z x2, .z x3] => sV_umeet ⟨x0, x1⟩ ⟨x2, x3⟩
  | _ => []
def sT_umeet : Tr :=
(.leaf (.cons (.mx (.var 0) (.var 2)) (.cons (.mn (.var 1) (.var 3)) .nil)))
def sP_umeet : Spec := ⟨fun k => match k with | _ => fun _ => [], fun k => match k with | _ => fun _ => True⟩
set_option maxRecDepth 100000 in
theorem sR_umeet : treeIs tys_XbA [] [] [] 200 Tryz.f83 [.agg kPu, .agg kPu] [.agg kPu] false [.int .u64, .int .u64, .int .u64, .int .u64] sT_umeet := ⟨by kernel_rfl, by kernel_rfl, by kernel_rfl⟩
set_option maxRecDepth 100000 in
set_option maxHeartbeats 8000000 in
theorem sX_umeet (a : Pu) (ha : Pu.ok a) (b : Pu) (hb : Pu.ok b) (ρ : Env) (g : varsD ρ 0 [.int .u64, .int .u64, .int .u64, .int .u64] = [.z a.lo, .z a.hi, .z b.lo, .z b.hi]) : sT_umeet.asks sP_umeet (fun ρ e => e.D ρ = sF_umeet [.z a.lo, .z a.hi, .z b.lo, .z b.hi]) ρ fun _ _ => False := by
  simp only [varsD, varD, List.cons.injEq, Dt.z.injEq, Dt.l.injEq, b2i_eq_iff, Nat.reduceAdd, and_true] at g
  simp only [sT_umeet, sP_umeet, sF_umeet, sV_umeet, Tr.asks, upd_same, okDs, okD, eqs, E.I, E.B, E.L, E.R, E.D, E.vs, dI, dB, dL, varD, varsD, List.getElem?_cons_zero, List.getElem?_cons_succ, List.cons_append, List.nil_append, Nat.zero_add, Nat.add_zero, Nat.reduceAdd, and_true, true_and, b2i_one, -eq_self, Pu.eta, g]
  rfl
theorem sK_umeet {sp : Spec} {key : Nat} (hF : sp.F key = sF_umeet) (hP : sp.pre key = fun _ => True := by rfl) : SmOk Tryz.prog sp (sM_umeet key) :=
  fun_ok (s := sM_umeet key) hF hP (by kernel_rfl) tysok_XbA (sm0) Tryz.func83 sR_umeet (.inl rfl) (fun x0 gx0 x1 gx1 x2 gx2 x3 gx3 hp ρ g => sX_umeet ⟨x0, x1⟩ ⟨gx0, gx1⟩ ⟨x2, x3⟩ ⟨gx2, gx3⟩ ρ g)
def sM_ujoin (key : Nat) : Sm := ⟨102, key, [.agg kPu, .agg kPu], [.agg kPu], false⟩
def sV_ujoin (a : Pu) (b : Pu) : List Dt := [.z (((⟨min a.lo b.lo, max a.hi b.hi⟩ : Pu)).lo), .z (((⟨min a.lo b.lo, max a.hi b.hi⟩ : Pu)).hi)]
def sF_ujoin : List Dt → List Dt
  | [.z x0, .z x1, .z x2, .z x3] => sV_ujoin ⟨x0, x1⟩ ⟨x2, x3⟩
  | _ => []
def sT_ujoin : Tr :=
(.leaf (.cons (.mn (.var 0) (.var 2)) (.cons (.mx (.var 1) (.var 3)) .nil)))
def sP_ujoin : Spec := ⟨fun k => match k with | _ => fun _ => [], fun k => match k with | _ => fun _ => True⟩
set_option maxRecDepth 100000 in
theorem sR_ujoin : treeIs tys_XbA [] [] [] 200 Tryz.f102 [.agg kPu, .agg kPu] [.agg kPu] false [.int .u64, .int .u64, .int .u64, .int .u64] sT_ujoin := ⟨by kernel_rfl, by kernel_rfl, by kernel_rfl⟩
set_option maxRecDepth 100000 in
set_option maxHeartbeats 8000000 in
theorem sX_ujoin (a : Pu) (ha : Pu.ok a) (b : Pu) (hb : Pu.ok b) (ρ : Env) (g : varsD ρ 0 [.int .u64, .int .u64, .int .u64, .int .u64] = [.z a.lo, .z a.hi, .z b.lo, .z b.hi]) : sT_ujoin.asks sP_ujoin (fun ρ e => e.D ρ = sF_ujoin [.z a.lo, .z a.hi, .z b.lo, .z b.hi]) ρ fun _ _ => False := by
  simp only [varsD, varD, List.cons.injEq, Dt.z.injEq, Dt.l.injEq, b2i_eq_iff, Nat.reduceAdd, and_true] at g
  simp only [sT_ujoin, sP_ujoin, sF_ujoin, sV_ujoin, Tr.asks, upd_same, okDs, okD, eqs, E.I, E.B, E.L, E.R, E.D, E.vs, dI, dB, dL, varD, varsD, List.getElem?_cons_zero, List.getElem?_cons_succ, List.cons_append, List.nil_append, Nat.zero_add, Nat.add_zero, Nat.reduceAdd, and_true, true_and, b2i_one, -eq_self, Pu.eta, g]
  rfl
theorem sK_ujoin {sp : Spec} {key : Nat} (hF : sp.F key = sF_ujoin) (hP : sp.pre key = fun _ => True := by rfl) : SmOk Tryz.prog sp (sM_ujoin key) :=
  fun_ok (s := sM_ujoin key) hF hP (by kernel_rfl) tysok_XbA (sm0) Tryz.func102 sR_ujoin (.inl rfl) (fun x0 gx0 x1 gx1 x2 gx2 x3 gx3 hp ρ g => sX_ujoin ⟨x0, x1⟩ ⟨gx0, gx1⟩ ⟨x2, x3⟩ ⟨gx2, gx3⟩ ρ g)
def sM_imeet (key : Nat) : Sm := ⟨85, key, [.agg kPi, .agg kPi], [.agg kPi], false⟩
def sV_imeet (a : Pi) (b : Pi) : List Dt := [.z (((⟨max a.lo b.lo, min a.hi b.hi⟩ : Pi)).lo), .z (((⟨max a.lo b.lo, min a.hi b.hi⟩ : Pi)).hi)]
def sF_imeet : List Dt → List Dt
  | [.z x0, .z x1, .z x2, .z x3] => sV_imeet ⟨x0, x1⟩ ⟨x2, x3⟩
  | _ => []
def sT_imeet : Tr :=
(.leaf (.cons (.mx (.var 0) (.var 2)) (.cons (.mn (.var 1) (.var 3)) .nil)))
def sP_imeet : Spec := ⟨fun k => match k with | _ => fun _ => [], fun k => match k with | _ => fun _ => True⟩
set_option maxRecDepth 100000 in
theorem sR_imeet : treeIs tys_XbA [] [] [] 200 Tryz.f85 [.agg kPi, .agg kPi] [.agg kPi] false [.int .i64, .int .i64, .int .i64, .int .i64] sT_imeet := ⟨by kernel_rfl, by kernel_rfl, by kernel_rfl⟩
set_option maxRecDepth 100000 in
set_option maxHeartbeats 8000000 in
theorem sX_imeet (a : Pi) (ha : Pi.ok a) (b : Pi) (hb : Pi.ok b) (ρ : Env) (g : varsD ρ 0 [.int .i64, .int .i64, .int .i64, .int .i64] = [.z a.lo, .z a.hi, .z b.lo, .z b.hi]) : sT_imeet.asks sP_imeet (fun ρ e => e.D ρ = sF_imeet [.z a.lo, .z a.hi, .z b.lo, .z b.hi]) ρ fun _ _ => False := by
  simp only [varsD, varD, List.cons.injEq, Dt.z.injEq, Dt.l.injEq, b2i_eq_iff, Nat.reduceAdd, and_true] at g
  simp only [sT_imeet, sP_imeet, sF_imeet, sV_imeet, Tr.asks, upd_same, okDs, okD, eqs, E.I, E.B, E.L, E.R, E.D, E.vs, dI, dB, dL, varD, varsD, List.getElem?_cons_zero, List.getElem?_cons_succ, List.cons_append, List.nil_append, Nat.zero_add, Nat.add_zero, Nat.reduceAdd, and_true, true_and, b2i_one, -eq_self, Pi.eta, g]
  rfl
theorem sK_imeet {sp : Spec} {key : Nat} (hF : sp.F key = sF_imeet) (hP : sp.pre key = fun _ => True := by rfl) : SmOk Tryz.prog sp (sM_imeet key) :=
  fun_ok (s := sM_imeet key) hF hP (by kernel_rfl) tysok_XbA (sm0) Tryz.func85 sR_imeet (.inl rfl) (fun x0 gx0 x1 gx1 x2 gx2 x3 gx3 hp ρ g => sX_imeet ⟨x0, x1⟩ ⟨gx0, gx1⟩ ⟨x2, x3⟩ ⟨gx2, gx3⟩ ρ g)
def sM_ijoin (key : Nat) : Sm := ⟨103, key, [.agg kPi, .agg kPi], [.agg kPi], false⟩
def sV_ijoin (a : Pi) (b : Pi) : List Dt := [.z (((⟨min a.lo b.lo, max a.hi b.hi⟩ : Pi)).lo), .z (((⟨min a.lo b.lo, max a.hi b.hi⟩ : Pi)).hi)]
def sF_ijoin : List Dt → List Dt
  | [.z x0, .z x1, .z x2, .z x3] => sV_ijoin ⟨x0, x1⟩ ⟨x2, x3⟩
  | _ => []
def sT_ijoin : Tr :=
(.leaf (.cons (.mn (.var 0) (.var 2)) (.cons (.mx (.var 1) (.var 3)) .nil)))
def sP_ijoin : Spec := ⟨fun k => match k with | _ => fun _ => [], fun k => match k with | _ => fun _ => True⟩
set_option maxRecDepth 100000 in
theorem sR_ijoin : treeIs tys_XbA [] [] [] 200 Tryz.f103 [.agg kPi, .agg kPi] [.agg kPi] false [.int .i64, .int .i64, .int .i64, .int .i64] sT_ijoin := ⟨by kernel_rfl, by kernel_rfl, by kernel_rfl⟩
set_option maxRecDepth 100000 in
set_option maxHeartbeats 8000000 in
theorem sX_ijoin (a : Pi) (ha : Pi.ok a) (b : Pi) (hb : Pi.ok b) (ρ : Env) (g : varsD ρ 0 [.int .i64, .int .i64, .int .i64, .int .i64] = [.z a.lo, .z a.hi, .z b.lo, .z b.hi]) : sT_ijoin.asks sP_ijoin (fun ρ e => e.D ρ = sF_ijoin [.z a.lo, .z a.hi, .z b.lo, .z b.hi]) ρ fun _ _ => False := by
  simp only [varsD, varD, List.cons.injEq, Dt.z.injEq, Dt.l.injEq, b2i_eq_iff, Nat.reduceAdd, and_true] at g
  simp only [sT_ijoin, sP_ijoin, sF_ijoin, sV_ijoin, Tr.asks, upd_same, okDs, okD, eqs, E.I, E.B, E.L, E.R, E.D, E.vs, dI, dB, dL, varD, varsD, List.getElem?_cons_zero, List.getElem?_cons_succ, List.cons_append, List.nil_append, Nat.zero_add, Nat.add_zero, Nat.reduceAdd, and_true, true_and, b2i_one, -eq_self, Pi.eta, g]
  rfl
theorem sK_ijoin {sp : Spec} {key : Nat} (hF : sp.F key = sF_ijoin) (hP : sp.pre key = fun _ => True := by rfl) : SmOk Tryz.prog sp (sM_ijoin key) :=
  fun_ok (s := sM_ijoin key) hF hP (by kernel_rfl) tysok_XbA (sm0) Tryz.func103 sR_ijoin (.inl rfl) (fun x0 gx0 x1 gx1 x2 gx2 x3 gx3 hp ρ g => sX_ijoin ⟨x0, x1⟩ ⟨gx0, gx1⟩ ⟨x2, x3⟩ ⟨gx2, gx3⟩ ρ g)
def sM_of (key : Nat) : Sm := ⟨80, key, [.agg kPu, .agg kPi], [.agg kRg], false⟩
def sV_of (a : Pu) (b : Pi) : List Dt := [.z (((⟨a.lo, a.hi, b.lo, b.hi⟩ : Rg)).ul), .z (((⟨a.lo, a.hi, b.lo, b.hi⟩ : Rg)).uh), .z (((⟨a.lo, a.hi, b.lo, b.hi⟩ : Rg)).sl), .z (((⟨a.lo, a.hi, b.lo, b.hi⟩ : Rg)).sh)]
def sF_of : List Dt → List Dt
  | [.z x0, .z x1, .z x2, .z x3] => sV_of ⟨x0, x1⟩ ⟨x2, x3⟩
  | _ => []
def sT_of : Tr :=
(.leaf (.vs 0 4 .nil))
def sP_of : Spec := ⟨fun k => match k with | _ => fun _ => [], fun k => match k with | _ => fun _ => True⟩
set_option maxRecDepth 100000 in
theorem sR_of : treeIs tys_XbA [] [] [] 200 Tryz.f80 [.agg kPu, .agg kPi] [.agg kRg] false [.int .u64, .int .u64, .int .i64, .int .i64] sT_of := ⟨by kernel_rfl, by kernel_rfl, by kernel_rfl⟩
set_option maxRecDepth 100000 in
set_option maxHeartbeats 8000000 in
theorem sX_of (a : Pu) (ha : Pu.ok a) (b : Pi) (hb : Pi.ok b) (ρ : Env) (g : varsD ρ 0 [.int .u64, .int .u64, .int .i64, .int .i64] = [.z a.lo, .z a.hi, .z b.lo, .z b.hi]) : sT_of.asks sP_of (fun ρ e => e.D ρ = sF_of [.z a.lo, .z a.hi, .z b.lo, .z b.hi]) ρ fun _ _ => False := by
  simp only [varsD, varD, List.cons.injEq, Dt.z.injEq, Dt.l.injEq, b2i_eq_iff, Nat.reduceAdd, and_true] at g
  simp only [sT_of, sP_of, sF_of, sV_of, Tr.asks, upd_same, okDs, okD, eqs, E.I, E.B, E.L, E.R, E.D, E.vs, dI, dB, dL, varD, varsD, List.getElem?_cons_zero, List.getElem?_cons_succ, List.cons_append, List.nil_append, Nat.zero_add, Nat.add_zero, Nat.reduceAdd, and_true, true_and, b2i_one, -eq_self, Pi.eta, Pu.eta, g]
  rfl
theorem sK_of {sp : Spec} {key : Nat} (hF : sp.F key = sF_of) (hP : sp.pre key = fun _ => True := by rfl) : SmOk Tryz.prog sp (sM_of key) :=
  fun_ok (s := sM_of key) hF hP (by kernel_rfl) tysok_XbA (sm0) Tryz.func80 sR_of (.inl rfl) (fun x0 gx0 x1 gx1 x2 gx2 x3 gx3 hp ρ g => sX_of ⟨x0, x1⟩ ⟨gx0, gx1⟩ ⟨x2, x3⟩ ⟨gx2, gx3⟩ ρ g)
def sM_may (key : Nat) : Sm := ⟨39, key, [.agg kRg], [.one .bool], false⟩
def sV_may (a : Rg) : List Dt := [.z (b2i (bmay a))]
def sF_may : List Dt → List Dt
  | [.z x0, .z x1, .z x2, .z x3] => sV_may ⟨x0, x1, x2, x3⟩
  | _ => []
def sT_may : Tr :=
(.call 0 (kPu) (.vs 0 4 .nil) 4
(.call 2 ([.bool]) (.vs 4 2 .nil) 6
(.br (.bvar 6)
(.call 1 (kPi) (.vs 0 4 .nil) 7
(.call 3 ([.bool]) (.vs 7 2 .nil) 9
(.leaf (.consb (.bvar 9) .nil))))
(.leaf (.consb (.tt false) .nil)))))
def sP_may : Spec := ⟨fun k => match k with | 0 => sF_uns | 1 => sF_sig | 2 => sF_umay | 3 => sF_imay | _ => fun _ => [], fun k => match k with | _ => fun _ => True⟩
set_option maxRecDepth 100000 in
theorem sR_may : treeIs tys_XbA [sM_uns 0, sM_sig 1, sM_umay 2, sM_imay 3] [] [] 200 Tryz.f39 [.agg kRg] [.one .bool] false [.int .u64, .int .u64, .int .i64, .int .i64] sT_may := ⟨by kernel_rfl, by kernel_rfl, by kernel_rfl⟩
set_option maxRecDepth 100000 in
set_option maxHeartbeats 8000000 in
theorem sX_may (a : Rg) (ha : Rg.ok a) (ρ : Env) (g : varsD ρ 0 [.int .u64, .int .u64, .int .i64, .int .i64] = [.z a.ul, .z a.uh, .z a.sl, .z a.sh]) : sT_may.asks sP_may (fun ρ e => e.D ρ = sF_may [.z a.ul, .z a.uh, .z a.sl, .z a.sh]) ρ fun _ _ => False := by
  simp only [varsD, varD, List.cons.injEq, Dt.z.injEq, Dt.l.injEq, b2i_eq_iff, Nat.reduceAdd, and_true] at g
  simp only [sT_may, sP_may, kPi, kPu, sF_uns, sF_sig, sF_umay, sF_imay, sV_uns, sV_sig, sV_umay, sV_imay, sF_may, sV_may, Tr.asks, upd_same, okDs, okD, eqs, E.I, E.B, E.L, E.R, E.D, E.vs, dI, dB, dL, varD, varsD, List.getElem?_cons_zero, List.getElem?_cons_succ, List.cons_append, List.nil_append, Nat.zero_add, Nat.add_zero, Nat.reduceAdd, and_true, true_and, b2i_one, -eq_self, Pi.eta, Pu.eta, Rg.eta, g]
  intro e; (try simp only [e, Pi.eta, Pu.eta, Rg.eta, -eq_self]); clear e
  intro e; (try simp only [e, Pi.eta, Pu.eta, Rg.eta, -eq_self]); clear e
  refine ⟨fun c0 => ?_, fun c0 => ?_⟩
  intro e; (try simp only [e, Pi.eta, Pu.eta, Rg.eta, -eq_self]); clear e
  intro e; (try simp only [e, Pi.eta, Pu.eta, Rg.eta, -eq_self]); clear e
  (unfold bmay; simp_all; try (intros; omega))
  (unfold bmay; simp_all; try (intros; omega))
theorem sK_may {sp : Spec} {key : Nat} (hF : sp.F key = sF_may) (hP : sp.pre key = fun _ => True := by rfl) : SmOk Tryz.prog sp (sM_may key) :=
  fun_ok (s := sM_may key) hF hP (by kernel_rfl) tysok_XbA (smc (sK_uns rfl) (smc (sK_sig rfl) (smc (sK_umay rfl) (smc (sK_imay rfl) sm0)))) Tryz.func39 sR_may (.inl rfl) (fun x0 gx0 x1 gx1 x2 gx2 x3 gx3 hp ρ g => sX_may ⟨x0, x1, x2, x3⟩ ⟨gx0, gx1, gx2, gx3⟩ ρ g)
def sM_all (key : Nat) : Sm := ⟨29, key, [], [.agg kRg], false⟩
def sF_all : List Dt → List Dt
  | [] => [.z ball.ul, .z ball.uh, .z ball.sl, .z ball.sh]
  | _ => []
def sT_all : Tr :=
(.call 0 (kRg) (.cons (.lit 0) (.cons (.lit 18446744073709551615) (.cons (.lit (-9223372036854775808)) (.cons (.lit 9223372036854775807) .nil)))) 0
(.leaf (.vs 0 4 .nil)))
def sP_all : Spec := ⟨fun k => match k with | 0 => sF_of | _ => fun _ => [], fun k => match k with | _ => fun _ => True⟩
set_option maxRecDepth 100000 in
theorem sR_all : treeIs tys_XbA [sM_of 0] [] [] 200 Tryz.f29 [] [.agg kRg] false [] sT_all := ⟨by kernel_rfl, by kernel_rfl, by kernel_rfl⟩
set_option maxRecDepth 100000 in
set_option maxHeartbeats 8000000 in
theorem sX_all  (ρ : Env) (g : varsD ρ 0 [] = []) : sT_all.asks sP_all (fun ρ e => e.D ρ = sF_all []) ρ fun _ _ => False := by
  simp only [sT_all, sP_all, kRg, sF_of, sV_of, sF_all, Tr.asks, upd_same, okDs, okD, eqs, E.I, E.B, E.L, E.R, E.D, E.vs, dI, dB, dL, varD, varsD, List.getElem?_cons_zero, List.getElem?_cons_succ, List.cons_append, List.nil_append, Nat.zero_add, Nat.add_zero, Nat.reduceAdd, and_true, true_and, b2i_one, -eq_self, Pi.eta, Pu.eta, Rg.eta]
  intro e; (try simp only [e, Pi.eta, Pu.eta, Rg.eta, -eq_self]); clear e
  rfl
theorem sK_all {sp : Spec} {key : Nat} (hF : sp.F key = sF_all) (hP : sp.pre key = fun _ => True := by rfl) : SmOk Tryz.prog sp (sM_all key) :=
  fun_ok (s := sM_all key) hF hP (by kernel_rfl) tysok_XbA (smc (sK_of rfl) sm0) Tryz.func29 sR_all (.inl rfl) (fun  hp ρ g => sX_all ρ g)
def sM_one (key : Nat) : Sm := ⟨46, key, [.one (.int .u64)], [.agg kRg], false⟩
def sV_one (v : Int) : List Dt := [.z ((bone v).ul), .z ((bone v).uh), .z ((bone v).sl), .z ((bone v).sh)]
def sF_one : List Dt → List Dt
  | [.z x0] => sV_one x0
  | _ => []
def sT_one : Tr :=
(.call 0 (kRg) (.cons (.var 0) (.cons (.var 0) (.cons (.conv .i64 (.var 0)) (.cons (.conv .i64 (.var 0)) .nil)))) 1
(.leaf (.vs 1 4 .nil)))
def sP_one : Spec := ⟨fun k => match k with | 0 => sF_of | _ => fun _ => [], fun k => match k with | _ => fun _ => True⟩
set_option maxRecDepth 100000 in
theorem sR_one : treeIs tys_XbA [sM_of 0] [] [] 200 Tryz.f46 [.one (.int .u64)] [.agg kRg] false [.int .u64] sT_one := ⟨by kernel_rfl, by kernel_rfl, by kernel_rfl⟩
set_option maxRecDepth 100000 in
set_option maxHeartbeats 8000000 in
theorem sX_one (v : Int) (hv : inK .u64 v = true) (ρ : Env) (g : varsD ρ 0 [.int .u64] = [.z v]) : sT_one.asks sP_one (fun ρ e => e.D ρ = sF_one [.z v]) ρ fun _ _ => False := by
  simp only [varsD, varD, List.cons.injEq, Dt.z.injEq, Dt.l.injEq, b2i_eq_iff, Nat.reduceAdd, and_true] at g
  simp only [sT_one, sP_one, kRg, sF_of, sV_of, sF_one, sV_one, Tr.asks, upd_same, okDs, okD, eqs, E.I, E.B, E.L, E.R, E.D, E.vs, dI, dB, dL, varD, varsD, List.getElem?_cons_zero, List.getElem?_cons_succ, List.cons_append, List.nil_append, Nat.zero_add, Nat.add_zero, Nat.reduceAdd, and_true, true_and, b2i_one, -eq_self, Pi.eta, Pu.eta, Rg.eta, g]
  intro e; (try simp only [e, Pi.eta, Pu.eta, Rg.eta, -eq_self]); clear e
  simp [bone, s64_wrap]
theorem sK_one {sp : Spec} {key : Nat} (hF : sp.F key = sF_one) (hP : sp.pre key = fun _ => True := by rfl) : SmOk Tryz.prog sp (sM_one key) :=
  fun_ok (s := sM_one key) hF hP (by kernel_rfl) tysok_XbA (smc (sK_of rfl) sm0) Tryz.func46 sR_one (.inl rfl) (fun x0 gx0 hp ρ g => sX_one x0 gx0 ρ g)
def sM_has (key : Nat) : Sm := ⟨52, key, [.agg kRg, .one (.int .u64)], [.one .bool], false⟩
def sV_has (a : Rg) (v : Int) : List Dt := [.z (b2i (bhas a v))]
def sF_has : List Dt → List Dt
  | [.z x0, .z x1, .z x2, .z x3, .z x4] => sV_has ⟨x0, x1, x2, x3⟩ x4
  | _ => []
def sT_has : Tr :=
(.call 0 ([.bool]) (.vs 0 4 .nil) 5
(.br (.bvar 5)
(.call 1 (kPu) (.vs 0 4 .nil) 6
(.call 3 ([.bool]) (.vs 6 2 (.cons (.var 4) .nil)) 8
(.br (.bvar 8)
(.call 2 (kPi) (.vs 0 4 .nil) 9
(.call 4 ([.bool]) (.vs 9 2 (.cons (.conv .i64 (.var 4)) .nil)) 11
(.leaf (.consb (.bvar 11) .nil))))
(.leaf (.consb (.tt false) .nil)))))
(.leaf (.consb (.tt false) .nil))))
def sP_has : Spec := ⟨fun k => match k with | 0 => sF_may | 1 => sF_uns | 2 => sF_sig | 3 => sF_uhas | 4 => sF_ihas | _ => fun _ => [], fun k => match k with | _ => fun _ => True⟩
set_option maxRecDepth 100000 in
theorem sR_has : treeIs tys_XbA [sM_may 0, sM_uns 1, sM_sig 2, sM_uhas 3, sM_ihas 4] [] [] 200 Tryz.f52 [.agg kRg, .one (.int .u64)] [.one .bool] false [.int .u64, .int .u64, .int .i64, .int .i64, .int .u64] sT_has := ⟨by kernel_rfl, by kernel_rfl, by kernel_rfl⟩
set_option maxRecDepth 100000 in
set_option maxHeartbeats 8000000 in
theorem sX_has (a : Rg) (ha : Rg.ok a) (v : Int) (hv : inK .u64 v = true) (ρ : Env) (g : varsD ρ 0 [.int .u64, .int .u64, .int .i64, .int .i64, .int .u64] = [.z a.ul, .z a.uh, .z a.sl, .z a.sh, .z v]) : sT_has.asks sP_has (fun ρ e => e.D ρ = sF_has [.z a.ul, .z a.uh, .z a.sl, .z a.sh, .z v]) ρ fun _ _ => False := by
  simp only [varsD, varD, List.cons.injEq, Dt.z.injEq, Dt.l.injEq, b2i_eq_iff, Nat.reduceAdd, and_true] at g
  simp only [sT_has, sP_has, kPi, kPu, sF_may, sF_uns, sF_sig, sF_uhas, sF_ihas, sV_may, sV_uns, sV_sig, sV_uhas, sV_ihas, sF_has, sV_has, Tr.asks, upd_same, okDs, okD, eqs, E.I, E.B, E.L, E.R, E.D, E.vs, dI, dB, dL, varD, varsD, List.getElem?_cons_zero, List.getElem?_cons_succ, List.cons_append, List.nil_append, Nat.zero_add, Nat.add_zero, Nat.reduceAdd, and_true, true_and, b2i_one, -eq_self, Pi.eta, Pu.eta, Rg.eta, g]
  intro e; (try simp only [e, Pi.eta, Pu.eta, Rg.eta, -eq_self]); clear e
  refine ⟨fun c0 => ?_, fun c0 => ?_⟩
  intro e; (try simp only [e, Pi.eta, Pu.eta, Rg.eta, -eq_self]); clear e
  intro e; (try simp only [e, Pi.eta, Pu.eta, Rg.eta, -eq_self]); clear e
  refine ⟨fun c1 => ?_, fun c1 => ?_⟩
  intro e; (try simp only [e, Pi.eta, Pu.eta, Rg.eta, -eq_self]); clear e
  intro e; (try simp only [e, Pi.eta, Pu.eta, Rg.eta, -eq_self]); clear e
  (unfold bhas; simp_all [s64_wrap]; try (intros; omega))
  (unfold bhas; simp_all [s64_wrap]; try (intros; omega))
  (unfold bhas; simp_all [s64_wrap]; try (intros; omega))
theorem sK_has {sp : Spec} {key : Nat} (hF : sp.F key = sF_has) (hP : sp.pre key = fun _ => True := by rfl) : SmOk Tryz.prog sp (sM_has key) :=
  fun_ok (s := sM_has key) hF hP (by kernel_rfl) tysok_XbA (smc (sK_may rfl) (smc (sK_uns rfl) (smc (sK_sig rfl) (smc (sK_uhas rfl) (smc (sK_ihas rfl) sm0))))) Tryz.func52 sR_has (.inl rfl) (fun x0 gx0 x1 gx1 x2 gx2 x3 gx3 x4 gx4 hp ρ g => sX_has ⟨x0, x1, x2, x3⟩ ⟨gx0, gx1, gx2, gx3⟩ x4 gx4 ρ g)
def sM_single (key : Nat) : Sm := ⟨37, key, [.agg kRg], [.one (.int .u64), .one .bool], true⟩
def sV_single (a : Rg) : List Dt := [.z (bsingle a), .z (b2i (bones a))]
def sF_single : List Dt → List Dt
  | [.z x0, .z x1, .z x2, .z x3] => sV_single ⟨x0, x1, x2, x3⟩
  | _ => []
def sT_single : Tr :=
(.br (.eq (.var 0) (.var 1))
(.call 0 ([.bool]) (.vs 0 4 (.cons (.var 0) .nil)) 4
(.br (.bvar 4)
(.leaf (.cons (.var 0) (.consb (.tt true) .nil)))
(.leaf (.cons (.lit 0) (.consb (.tt false) .nil)))))
(.leaf (.cons (.lit 0) (.consb (.tt false) .nil))))
def sP_single : Spec := ⟨fun k => match k with | 0 => sF_has | _ => fun _ => [], fun k => match k with | _ => fun _ => True⟩
set_option maxRecDepth 100000 in
theorem sR_single : treeIs tys_XbA [sM_has 0] [] [] 200 Tryz.f37 [.agg kRg] [.one (.int .u64), .one .bool] true [.int .u64, .int .u64, .int .i64, .int .i64] sT_single := ⟨by kernel_rfl, by kernel_rfl, by kernel_rfl⟩
set_option maxRecDepth 100000 in
set_option maxHeartbeats 8000000 in
theorem sX_single (a : Rg) (ha : Rg.ok a) (ρ : Env) (g : varsD ρ 0 [.int .u64, .int .u64, .int .i64, .int .i64] = [.z a.ul, .z a.uh, .z a.sl, .z a.sh]) : sT_single.asks sP_single (fun ρ e => e.D ρ = sF_single [.z a.ul, .z a.uh, .z a.sl, .z a.sh]) ρ fun _ _ => False := by
  simp only [varsD, varD, List.cons.injEq, Dt.z.injEq, Dt.l.injEq, b2i_eq_iff, Nat.reduceAdd, and_true] at g
  simp only [sT_single, sP_single, sF_has, sV_has, sF_single, sV_single, Tr.asks, upd_same, okDs, okD, eqs, E.I, E.B, E.L, E.R, E.D, E.vs, dI, dB, dL, varD, varsD, List.getElem?_cons_zero, List.getElem?_cons_succ, List.cons_append, List.nil_append, Nat.zero_add, Nat.add_zero, Nat.reduceAdd, and_true, true_and, b2i_one, -eq_self, Pi.eta, Pu.eta, Rg.eta, g]
  refine ⟨fun c0 => ?_, fun c0 => ?_⟩
  intro e; (try simp only [e, Pi.eta, Pu.eta, Rg.eta, -eq_self]); clear e
  refine ⟨fun c1 => ?_, fun c1 => ?_⟩
  (unfold bsingle bones; simp_all)
  (unfold bsingle bones; simp_all)
  (unfold bsingle bones; simp_all)
theorem sK_single {sp : Spec} {key : Nat} (hF : sp.F key = sF_single) (hP : sp.pre key = fun _ => True := by rfl) : SmOk Tryz.prog sp (sM_single key) :=
  fun_ok (s := sM_single key) hF hP (by kernel_rfl) tysok_XbA (smc (sK_has rfl) sm0) Tryz.func37 sR_single (.inl rfl) (fun x0 gx0 x1 gx1 x2 gx2 x3 gx3 hp ρ g => sX_single ⟨x0, x1, x2, x3⟩ ⟨gx0, gx1, gx2, gx3⟩ ρ g)
def sM_join (key : Nat) : Sm := ⟨57, key, [.agg kRg, .agg kRg], [.agg kRg], false⟩
def sV_join (a : Rg) (b : Rg) : List Dt := [.z ((bjoin a b).ul), .z ((bjoin a b).uh), .z ((bjoin a b).sl), .z ((bjoin a b).sh)]
def sF_join : List Dt → List Dt
  | [.z x0, .z x1, .z x2, .z x3, .z x4, .z x5, .z x6, .z x7] => sV_join ⟨x0, x1, x2, x3⟩ ⟨x4, x5, x6, x7⟩
  | _ => []
def sT_join : Tr :=
(.call 0 ([.bool]) (.vs 0 4 .nil) 8
(.br (.bvar 8)
(.call 0 ([.bool]) (.vs 4 4 .nil) 9
(.br (.bvar 9)
(.call 2 (kPu) (.vs 0 4 .nil) 10
(.call 2 (kPu) (.vs 4 4 .nil) 12
(.call 4 (kPu) (.vs 10 4 .nil) 14
(.call 3 (kPi) (.vs 0 4 .nil) 16
(.call 3 (kPi) (.vs 4 4 .nil) 18
(.call 5 (kPi) (.vs 16 4 .nil) 20
(.call 6 (kRg) (.vs 14 2 (.vs 20 2 .nil)) 22
(.leaf (.vs 22 4 .nil)))))))))
(.call 1 (kRg) .nil 10
(.leaf (.vs 10 4 .nil)))))
(.call 1 (kRg) .nil 9
(.leaf (.vs 9 4 .nil)))))
def sP_join : Spec := ⟨fun k => match k with | 0 => sF_may | 1 => sF_all | 2 => sF_uns | 3 => sF_sig | 4 => sF_ujoin | 5 => sF_ijoin | 6 => sF_of | _ => fun _ => [], fun k => match k with | _ => fun _ => True⟩
set_option maxRecDepth 100000 in
theorem sR_join : treeIs tys_XbA [sM_may 0, sM_all 1, sM_uns 2, sM_sig 3, sM_ujoin 4, sM_ijoin 5, sM_of 6] [] [] 200 Tryz.f57 [.agg kRg, .agg kRg] [.agg kRg] false [.int .u64, .int .u64, .int .i64, .int .i64, .int .u64, .int .u64, .int .i64, .int .i64] sT_join := ⟨by kernel_rfl, by kernel_rfl, by kernel_rfl⟩
set_option maxRecDepth 100000 in
set_option maxHeartbeats 8000000 in
theorem sX_join (a : Rg) (ha : Rg.ok a) (b : Rg) (hb : Rg.ok b) (ρ : Env) (g : varsD ρ 0 [.int .u64, .int .u64, .int .i64, .int .i64, .int .u64, .int .u64, .int .i64, .int .i64] = [.z a.ul, .z a.uh, .z a.sl, .z a.sh, .z b.ul, .z b.uh, .z b.sl, .z b.sh]) : sT_join.asks sP_join (fun ρ e => e.D ρ = sF_join [.z a.ul, .z a.uh, .z a.sl, .z a.sh, .z b.ul, .z b.uh, .z b.sl, .z b.sh]) ρ fun _ _ => False := by
  simp only [varsD, varD, List.cons.injEq, Dt.z.injEq, Dt.l.injEq, b2i_eq_iff, Nat.reduceAdd, and_true] at g
  simp only [sT_join, sP_join, kPi, kPu, kRg, sF_may, sF_all, sF_uns, sF_sig, sF_ujoin, sF_ijoin, sF_of, sV_may, sV_uns, sV_sig, sV_ujoin, sV_ijoin, sV_of, sF_join, sV_join, Tr.asks, upd_same, okDs, okD, eqs, E.I, E.B, E.L, E.R, E.D, E.vs, dI, dB, dL, varD, varsD, List.getElem?_cons_zero, List.getElem?_cons_succ, List.cons_append, List.nil_append, Nat.zero_add, Nat.add_zero, Nat.reduceAdd, and_true, true_and, b2i_one, -eq_self, Pi.eta, Pu.eta, Rg.eta, g]
  intro e; (try simp only [e, Pi.eta, Pu.eta, Rg.eta, -eq_self]); clear e
  refine ⟨fun c0 => ?_, fun c0 => ?_⟩
  intro e; (try simp only [e, Pi.eta, Pu.eta, Rg.eta, -eq_self]); clear e
  refine ⟨fun c1 => ?_, fun c1 => ?_⟩
  intro e; (try simp only [e, Pi.eta, Pu.eta, Rg.eta, -eq_self]); clear e
  intro e; (try simp only [e, Pi.eta, Pu.eta, Rg.eta, -eq_self]); clear e
  intro e; (try simp only [e, Pi.eta, Pu.eta, Rg.eta, -eq_self]); clear e
  intro e; (try simp only [e, Pi.eta, Pu.eta, Rg.eta, -eq_self]); clear e
  intro e; (try simp only [e, Pi.eta, Pu.eta, Rg.eta, -eq_self]); clear e
  intro e; (try simp only [e, Pi.eta, Pu.eta, Rg.eta, -eq_self]); clear e
  intro e; (try simp only [e, Pi.eta, Pu.eta, Rg.eta, -eq_self]); clear e
  (unfold bjoin; simp_all [bjoin0])
  intro e; (try simp only [e, Pi.eta, Pu.eta, Rg.eta, -eq_self]); clear e
  (unfold bjoin; simp_all [bjoin0])
  intro e; (try simp only [e, Pi.eta, Pu.eta, Rg.eta, -eq_self]); clear e
  (unfold bjoin; simp_all [bjoin0])
theorem sK_join {sp : Spec} {key : Nat} (hF : sp.F key = sF_join) (hP : sp.pre key = fun _ => True := by rfl) : SmOk Tryz.prog sp (sM_join key) :=
  fun_ok (s := sM_join key) hF hP (by kernel_rfl) tysok_XbA (smc (sK_may rfl) (smc (sK_all rfl) (smc (sK_uns rfl) (smc (sK_sig rfl) (smc (sK_ujoin rfl) (smc (sK_ijoin rfl) (smc (sK_of rfl) sm0))))))) Tryz.func57 sR_join (.inl rfl) (fun x0 gx0 x1 gx1 x2 gx2 x3 gx3 x4 gx4 x5 gx5 x6 gx6 x7 gx7 hp ρ g => sX_join ⟨x0, x1, x2, x3⟩ ⟨gx0, gx1, gx2, gx3⟩ ⟨x4, x5, x6, x7⟩ ⟨gx4, gx5, gx6, gx7⟩ ρ g)
end Go.Proofs.YtcfnglbcgkappaaGreat

/- Contracts of Narrow and others of package bounds, by the symbolic run. -/
set_option linter.unusedVariables false
set_option linter.unusedSimpArgs false
namespace Go.Proofs.YtcfnglbcgkappaaGreat
open Go.RowKit Go.ChangeShapes Go.WideShapes

theorem bnar_if (r : Rg) : (if bnok r = true then bnar r else ball) = bnar r := by
  unfold bnar
  split <;> simp_all
theorem Rg.ext_iff {a b : Rg} : a = b ↔ a.ul = b.ul ∧ a.uh = b.uh ∧ a.sl = b.sl ∧ a.sh = b.sh := by
  cases a; cases b; simp
theorem inK_u64 {x : Int} (h : inK .u64 x = true) : 0 ≤ x ∧ x ≤ 18446744073709551615 := by
  rw [inK_iff] at h; simpa [IntKind.min, IntKind.max, IntKind.signed, IntKind.bits] using h
theorem inK_i64 {x : Int} (h : inK .i64 x = true) : -9223372036854775808 ≤ x ∧ x ≤ 9223372036854775807 := by
  rw [inK_iff] at h; simpa [IntKind.min, IntKind.max, IntKind.signed, IntKind.bits] using h
theorem Rg.wf_of {a : Rg} (h : a.ok) : a.wf := ⟨inK_u64 h.1, inK_u64 h.2.1, inK_i64 h.2.2.1, inK_i64 h.2.2.2⟩
theorem shr63 {x : Int} (h : 0 ≤ x ∧ x ≤ 18446744073709551615) : opI .shr .u64 x 63 = if hib x = true then 1 else 0 := by
  show x.fdiv (2 ^ 63) = _
  rw [Int.fdiv_eq_ediv_of_nonneg _ (by omega)]
  unfold hib
  split
  · rename_i hh; have := of_decide_eq_true hh; omega
  · rename_i hh; have : ¬ 9223372036854775808 ≤ x := fun e => hh (decide_eq_true e); omega
theorem hib_c {r : Rg} (w : r.wf) : (opI .shr .u64 r.ul 63 == opI .shr .u64 r.uh 63) = decide (hib r.ul = hib r.uh) := by
  rw [shr63 w.1, shr63 w.2.1]
  cases hib r.ul <;> cases hib r.uh <;> rfl
theorem sgn_t {r : Rg} (w : r.wf) (h : (opI .shr .u64 r.ul 63 == opI .shr .u64 r.uh 63) = true) : bsgn r = ⟨r.ul, r.uh, max r.sl (IntKind.i64.wrap r.ul), min r.sh (IntKind.i64.wrap r.uh)⟩ := by
  rw [hib_c w, decide_eq_true_eq] at h
  unfold bsgn
  rw [if_pos h, s64_wrap, s64_wrap]
theorem sgn_f {r : Rg} (w : r.wf) (h : (opI .shr .u64 r.ul 63 == opI .shr .u64 r.uh 63) = false) : bsgn r = ⟨r.ul, r.uh, r.sl, r.sh⟩ := by
  rw [hib_c w, decide_eq_false_iff_not] at h
  unfold bsgn
  rw [if_neg h]
theorem uns_t {r : Rg} (h : (decide (r.sl < 0) == decide (r.sh < 0)) = true) : buns r = ⟨max r.ul (IntKind.u64.wrap r.sl), min r.uh (IntKind.u64.wrap r.sh), r.sl, r.sh⟩ := by
  unfold buns
  rw [if_pos (eq_of_beq h)]
theorem uns_f {r : Rg} (h : (decide (r.sl < 0) == decide (r.sh < 0)) = false) : buns r = ⟨r.ul, r.uh, r.sl, r.sh⟩ := by
  unfold buns
  rw [if_neg (fun e => by rw [e] at h; simp at h)]
def z_Rg : List C := [.int .u64 (.lit 0), .int .u64 (.lit 0), .int .i64 (.lit 0), .int .i64 (.lit 0)]
theorem grd_Rg : Tryz.prog.eqGuardType Tryz.prog.depth 25 = false := by kernel_rfl
theorem cells25_Rg : Tryz.prog.cellsOf 25 = 4 := by kernel_rfl
theorem cells23_Rg : Tryz.prog.cellsOf 23 = 1 := by kernel_rfl
theorem cells2_Rg : Tryz.prog.cellsOf 2 = 1 := by kernel_rfl
set_option maxRecDepth 100000 in
theorem kl_Rg (vs : List Value) (hv : kindsV vs z_Rg) : Tryz.prog.keyLits 6 25 vs = some (litsOf vs) := by
  obtain ⟨x0, _, rfl, g0, hv⟩ := kindsV_int hv
  obtain ⟨x1, _, rfl, g1, hv⟩ := kindsV_int hv
  obtain ⟨x2, _, rfl, g2, hv⟩ := kindsV_int hv
  obtain ⟨x3, _, rfl, g3, hv⟩ := kindsV_int hv
  obtain rfl := kindsV_nil hv
  simp [Program.keyLits, Tryz.underlying25, Tryz.underlying23, Tryz.underlying2, cells25_Rg, cells23_Rg, cells2_Rg, inK_wf, litsOf, g0, g1, g2, g3]
theorem fm_Rg (vs : List Value) (hv : kindsV vs z_Rg) : (Value.agg vs.toArray).formed Tryz.prog 25 = true := by
  obtain ⟨x0, _, rfl, g0, hv⟩ := kindsV_int hv
  obtain ⟨x1, _, rfl, g1, hv⟩ := kindsV_int hv
  obtain ⟨x2, _, rfl, g2, hv⟩ := kindsV_int hv
  obtain ⟨x3, _, rfl, g3, hv⟩ := kindsV_int hv
  obtain rfl := kindsV_nil hv
  kernel_rfl
theorem eq_Rg (vs us : List Value) (hv : kindsV vs z_Rg) (hu : kindsV us z_Rg) (w : World) : (Op.equal 25 (.agg vs.toArray) (.agg us.toArray)).run Tryz.prog w = .ok (eqVs vs us) w :=
  eq_of_keys (by kernel_rfl) fm_Rg 6 kl_Rg vs us hv hu w
def tys_XbB : List (Nat × TI) := [(2, ⟨false, 1, [.int .i64 (.lit 0)], [], none, some .i64, false, false, none, 8, false⟩),
 (3, ⟨false, 1, [.int .i64 (.lit 0)], [], none, some .i64, false, false, none, 8, false⟩),
 (4, ⟨false, 1, [.bool (.tt false)], [], none, none, false, true, none, 1, false⟩),
 (23, ⟨false, 1, [.int .u64 (.lit 0)], [], none, some .u64, false, false, none, 8, false⟩),
 (25, ⟨true, 4, [.int .u64 (.lit 0), .int .u64 (.lit 0), .int .i64 (.lit 0), .int .i64 (.lit 0)], [(0, 23), (1, 23), (2, 2), (3, 2)], none, none, true, false, none, 32, false⟩),
 (79, ⟨true, 2, [.int .u64 (.lit 0), .int .u64 (.lit 0)], [(0, 23), (1, 23)], none, none, false, false, none, 16, false⟩),
 (81, ⟨true, 2, [.int .i64 (.lit 0), .int .i64 (.lit 0)], [(0, 2), (1, 2)], none, none, false, false, none, 16, false⟩)]
set_option maxRecDepth 100000 in
theorem tysck_XbB : (tys_XbB.all fun p => ckTI Tryz.prog p.1 p.2) = true := by kernel_rfl
theorem tyseq_XbB : (tys_XbB.all fun p => !p.2.eqok || ((Nat.beq p.1 25 && kindsC p.2.zero z_Rg))) = true := by kernel_rfl
theorem tysok_XbB : ∀ t i, (t, i) ∈ tys_XbB → TIok Tryz.prog t i := by
  intro t i h
  have h1 := List.all_eq_true.1 tyseq_XbB (t, i) h
  have h2 : i.eqok = true → (t = 25 ∧ kindsC i.zero z_Rg = true) := by
    intro he
    simp only [he, Bool.not_true, Bool.false_or, Bool.or_eq_true, Bool.and_eq_true] at h1
    exact ⟨Nat.eq_of_beq_eq_true h1.1, h1.2⟩
  refine TIok_of (all_at (f := ckTI Tryz.prog) tysck_XbB h) (fun he => ?_) (fun he => ?_)
  · rcases h2 he with ⟨rfl, hs⟩
    · exact fun vs us hv hu => eq_Rg vs us (kindsV_of hs hv) (kindsV_of hs hu)
  · rcases h2 he with ⟨rfl, hs⟩
    · exact grd_Rg
def sM_nar (key : Nat) : Sm := ⟨81, key, [.agg kRg], [.agg kRg, .one .bool], true⟩
def sV_nar (a : Rg) : List Dt := [.z ((bnar a).ul), .z ((bnar a).uh), .z ((bnar a).sl), .z ((bnar a).sh), .z (b2i (bnok a))]
def sF_nar : List Dt → List Dt
  | [.z x0, .z x1, .z x2, .z x3] => sV_nar ⟨x0, x1, x2, x3⟩
  | _ => []
def sT_nar : Tr :=
(.call 0 ([.bool]) (.vs 0 4 .nil) 4
(.br (.bvar 4)
(.call 2 (kPu) (.vs 0 4 .nil) 5
(.call 3 (kPi) (.vs 0 4 .nil) 7
(.br (.eq (.bin .shr .u64 (.var 5) (.lit 63)) (.bin .shr .u64 (.var 6) (.lit 63)))
(.call 5 (kPi) (.vs 7 2 (.cons (.conv .i64 (.var 5)) (.cons (.conv .i64 (.var 6)) .nil))) 9
(.call 6 (kRg) (.vs 5 2 (.vs 9 2 .nil)) 11
(.call 0 ([.bool]) (.vs 11 4 .nil) 15
(.br (.bvar 15)
(.call 2 (kPu) (.vs 11 4 .nil) 16
(.call 3 (kPi) (.vs 11 4 .nil) 18
(.br (.beq (.lt (.var 18) (.lit 0)) (.lt (.var 19) (.lit 0)))
(.call 4 (kPu) (.vs 16 2 (.cons (.conv .u64 (.var 18)) (.cons (.conv .u64 (.var 19)) .nil))) 20
(.call 6 (kRg) (.vs 20 2 (.vs 18 2 .nil)) 22
(.call 0 ([.bool]) (.vs 22 4 .nil) 26
(.br (.bvar 26)
(.call 2 (kPu) (.vs 22 4 .nil) 27
(.call 3 (kPi) (.vs 22 4 .nil) 29
(.br (.eq (.bin .shr .u64 (.var 27) (.lit 63)) (.bin .shr .u64 (.var 28) (.lit 63)))
(.call 5 (kPi) (.vs 29 2 (.cons (.conv .i64 (.var 27)) (.cons (.conv .i64 (.var 28)) .nil))) 31
(.call 6 (kRg) (.vs 27 2 (.vs 31 2 .nil)) 33
(.call 0 ([.bool]) (.vs 33 4 .nil) 37
(.br (.bvar 37)
(.call 2 (kPu) (.vs 33 4 .nil) 38
(.call 3 (kPi) (.vs 33 4 .nil) 40
(.leaf (.vs 33 4 (.consb (.tt true) .nil)))))
(.call 1 (kRg) .nil 38
(.leaf (.vs 38 4 (.consb (.tt false) .nil))))))))
(.call 6 (kRg) (.vs 27 4 .nil) 31
(.call 0 ([.bool]) (.vs 31 4 .nil) 35
(.br (.bvar 35)
(.call 2 (kPu) (.vs 31 4 .nil) 36
(.call 3 (kPi) (.vs 31 4 .nil) 38
(.leaf (.vs 31 4 (.consb (.tt true) .nil)))))
(.call 1 (kRg) .nil 36
(.leaf (.vs 36 4 (.consb (.tt false) .nil))))))))))
(.call 1 (kRg) .nil 27
(.leaf (.vs 27 4 (.consb (.tt false) .nil))))))))
(.call 6 (kRg) (.vs 16 4 .nil) 20
(.call 0 ([.bool]) (.vs 20 4 .nil) 24
(.br (.bvar 24)
(.call 2 (kPu) (.vs 20 4 .nil) 25
(.call 3 (kPi) (.vs 20 4 .nil) 27
(.br (.eq (.bin .shr .u64 (.var 25) (.lit 63)) (.bin .shr .u64 (.var 26) (.lit 63)))
(.call 5 (kPi) (.vs 27 2 (.cons (.conv .i64 (.var 25)) (.cons (.conv .i64 (.var 26)) .nil))) 29
(.call 6 (kRg) (.vs 25 2 (.vs 29 2 .nil)) 31
(.call 0 ([.bool]) (.vs 31 4 .nil) 35
(.br (.bvar 35)
(.call 2 (kPu) (.vs 31 4 .nil) 36
(.call 3 (kPi) (.vs 31 4 .nil) 38
(.leaf (.vs 31 4 (.consb (.tt true) .nil)))))
(.call 1 (kRg) .nil 36
(.leaf (.vs 36 4 (.consb (.tt false) .nil))))))))
(.call 6 (kRg) (.vs 25 4 .nil) 29
(.call 0 ([.bool]) (.vs 29 4 .nil) 33
(.br (.bvar 33)
(.call 2 (kPu) (.vs 29 4 .nil) 34
(.call 3 (kPi) (.vs 29 4 .nil) 36
(.leaf (.vs 29 4 (.consb (.tt true) .nil)))))
(.call 1 (kRg) .nil 34
(.leaf (.vs 34 4 (.consb (.tt false) .nil))))))))))
(.call 1 (kRg) .nil 25
(.leaf (.vs 25 4 (.consb (.tt false) .nil))))))))))
(.call 1 (kRg) .nil 16
(.leaf (.vs 16 4 (.consb (.tt false) .nil))))))))
(.call 6 (kRg) (.vs 5 4 .nil) 9
(.call 0 ([.bool]) (.vs 9 4 .nil) 13
(.br (.bvar 13)
(.call 2 (kPu) (.vs 9 4 .nil) 14
(.call 3 (kPi) (.vs 9 4 .nil) 16
(.br (.beq (.lt (.var 16) (.lit 0)) (.lt (.var 17) (.lit 0)))
(.call 4 (kPu) (.vs 14 2 (.cons (.conv .u64 (.var 16)) (.cons (.conv .u64 (.var 17)) .nil))) 18
(.call 6 (kRg) (.vs 18 2 (.vs 16 2 .nil)) 20
(.call 0 ([.bool]) (.vs 20 4 .nil) 24
(.br (.bvar 24)
(.call 2 (kPu) (.vs 20 4 .nil) 25
(.call 3 (kPi) (.vs 20 4 .nil) 27
(.br (.eq (.bin .shr .u64 (.var 25) (.lit 63)) (.bin .shr .u64 (.var 26) (.lit 63)))
(.call 5 (kPi) (.vs 27 2 (.cons (.conv .i64 (.var 25)) (.cons (.conv .i64 (.var 26)) .nil))) 29
(.call 6 (kRg) (.vs 25 2 (.vs 29 2 .nil)) 31
(.call 0 ([.bool]) (.vs 31 4 .nil) 35
(.br (.bvar 35)
(.call 2 (kPu) (.vs 31 4 .nil) 36
(.call 3 (kPi) (.vs 31 4 .nil) 38
(.leaf (.vs 31 4 (.consb (.tt true) .nil)))))
(.call 1 (kRg) .nil 36
(.leaf (.vs 36 4 (.consb (.tt false) .nil))))))))
(.call 6 (kRg) (.vs 25 4 .nil) 29
(.call 0 ([.bool]) (.vs 29 4 .nil) 33
(.br (.bvar 33)
(.call 2 (kPu) (.vs 29 4 .nil) 34
(.call 3 (kPi) (.vs 29 4 .nil) 36
(.leaf (.vs 29 4 (.consb (.tt true) .nil)))))
(.call 1 (kRg) .nil 34
(.leaf (.vs 34 4 (.consb (.tt false) .nil))))))))))
(.call 1 (kRg) .nil 25
(.leaf (.vs 25 4 (.consb (.tt false) .nil))))))))
(.call 6 (kRg) (.vs 14 4 .nil) 18
(.call 0 ([.bool]) (.vs 18 4 .nil) 22
(.br (.bvar 22)
(.call 2 (kPu) (.vs 18 4 .nil) 23
(.call 3 (kPi) (.vs 18 4 .nil) 25
(.br (.eq (.bin .shr .u64 (.var 23) (.lit 63)) (.bin .shr .u64 (.var 24) (.lit 63)))
(.call 5 (kPi) (.vs 25 2 (.cons (.conv .i64 (.var 23)) (.cons (.conv .i64 (.var 24)) .nil))) 27
(.call 6 (kRg) (.vs 23 2 (.vs 27 2 .nil)) 29
(.call 0 ([.bool]) (.vs 29 4 .nil) 33
(.br (.bvar 33)
(.call 2 (kPu) (.vs 29 4 .nil) 34
(.call 3 (kPi) (.vs 29 4 .nil) 36
(.leaf (.vs 29 4 (.consb (.tt true) .nil)))))
(.call 1 (kRg) .nil 34
(.leaf (.vs 34 4 (.consb (.tt false) .nil))))))))
(.call 6 (kRg) (.vs 23 4 .nil) 27
(.call 0 ([.bool]) (.vs 27 4 .nil) 31
(.br (.bvar 31)
(.call 2 (kPu) (.vs 27 4 .nil) 32
(.call 3 (kPi) (.vs 27 4 .nil) 34
(.leaf (.vs 27 4 (.consb (.tt true) .nil)))))
(.call 1 (kRg) .nil 32
(.leaf (.vs 32 4 (.consb (.tt false) .nil))))))))))
(.call 1 (kRg) .nil 23
(.leaf (.vs 23 4 (.consb (.tt false) .nil))))))))))
(.call 1 (kRg) .nil 14
(.leaf (.vs 14 4 (.consb (.tt false) .nil))))))))))
(.call 1 (kRg) .nil 5
(.leaf (.vs 5 4 (.consb (.tt false) .nil))))))
def sP_nar : Spec := ⟨fun k => match k with | 0 => sF_may | 1 => sF_all | 2 => sF_uns | 3 => sF_sig | 4 => sF_umeet | 5 => sF_imeet | 6 => sF_of | _ => fun _ => [], fun k => match k with | _ => fun _ => True⟩
set_option maxRecDepth 100000 in
theorem sR_nar : treeIs tys_XbB [sM_may 0, sM_all 1, sM_uns 2, sM_sig 3, sM_umeet 4, sM_imeet 5, sM_of 6] [] [] 200 Tryz.f81 [.agg kRg] [.agg kRg, .one .bool] true [.int .u64, .int .u64, .int .i64, .int .i64] sT_nar := ⟨by kernel_rfl, by kernel_rfl, by kernel_rfl⟩
set_option maxRecDepth 100000 in
set_option maxHeartbeats 8000000 in
theorem sX_nar (a : Rg) (ha : Rg.ok a) (ρ : Env) (g : varsD ρ 0 [.int .u64, .int .u64, .int .i64, .int .i64] = [.z a.ul, .z a.uh, .z a.sl, .z a.sh]) : sT_nar.asks sP_nar (fun ρ e => e.D ρ = sF_nar [.z a.ul, .z a.uh, .z a.sl, .z a.sh]) ρ fun _ _ => False := by
  simp only [varsD, varD, List.cons.injEq, Dt.z.injEq, Dt.l.injEq, b2i_eq_iff, Nat.reduceAdd, and_true] at g
  simp only [sT_nar, sP_nar, kPi, kPu, kRg, sF_may, sF_all, sF_uns, sF_sig, sF_umeet, sF_imeet, sF_of, sV_may, sV_uns, sV_sig, sV_umeet, sV_imeet, sV_of, sF_nar, sV_nar, Tr.asks, upd_same, okDs, okD, eqs, E.I, E.B, E.L, E.R, E.D, E.vs, dI, dB, dL, varD, varsD, List.getElem?_cons_zero, List.getElem?_cons_succ, List.cons_append, List.nil_append, Nat.zero_add, Nat.add_zero, Nat.reduceAdd, and_true, true_and, b2i_one, -eq_self, Pi.eta, Pu.eta, Rg.eta, g]
  have wfg := Rg.wf_of ha
  intro e; (try simp only [e, Pi.eta, Pu.eta, Rg.eta, -eq_self]); clear e
  refine ⟨fun c0 => ?_, fun c0 => ?_⟩
  intro e; (try simp only [e, Pi.eta, Pu.eta, Rg.eta, -eq_self]); clear e
  intro e; (try simp only [e, Pi.eta, Pu.eta, Rg.eta, -eq_self]); clear e
  refine ⟨fun c1 => ?_, fun c1 => ?_⟩
  intro e; (try simp only [e, Pi.eta, Pu.eta, Rg.eta, -eq_self]); clear e
  intro e; (try simp only [e, Pi.eta, Pu.eta, Rg.eta, -eq_self]); clear e
  intro e; (try simp only [e, Pi.eta, Pu.eta, Rg.eta, -eq_self]); clear e
  refine ⟨fun c2 => ?_, fun c2 => ?_⟩
  intro e; (try simp only [e, Pi.eta, Pu.eta, Rg.eta, -eq_self]); clear e
  intro e; (try simp only [e, Pi.eta, Pu.eta, Rg.eta, -eq_self]); clear e
  refine ⟨fun c3 => ?_, fun c3 => ?_⟩
  intro e; (try simp only [e, Pi.eta, Pu.eta, Rg.eta, -eq_self]); clear e
  intro e; (try simp only [e, Pi.eta, Pu.eta, Rg.eta, -eq_self]); clear e
  intro e; (try simp only [e, Pi.eta, Pu.eta, Rg.eta, -eq_self]); clear e
  refine ⟨fun c4 => ?_, fun c4 => ?_⟩
  intro e; (try simp only [e, Pi.eta, Pu.eta, Rg.eta, -eq_self]); clear e
  intro e; (try simp only [e, Pi.eta, Pu.eta, Rg.eta, -eq_self]); clear e
  refine ⟨fun c5 => ?_, fun c5 => ?_⟩
  intro e; (try simp only [e, Pi.eta, Pu.eta, Rg.eta, -eq_self]); clear e
  intro e; (try simp only [e, Pi.eta, Pu.eta, Rg.eta, -eq_self]); clear e
  intro e; (try simp only [e, Pi.eta, Pu.eta, Rg.eta, -eq_self]); clear e
  refine ⟨fun c6 => ?_, fun c6 => ?_⟩
  intro e; (try simp only [e, Pi.eta, Pu.eta, Rg.eta, -eq_self]); clear e
  intro e; (try simp only [e, Pi.eta, Pu.eta, Rg.eta, -eq_self]); clear e
  (have s1 := sgn_t (wfg) (by exact c1); have s2 := uns_t (r := bsgn a) (by rw [s1]; exact c3); have s3 := sgn_t (wf_buns (wf_bsgn wfg)) (by rw [s2, s1]; exact c5); have hok : bnok a = true := (by unfold bnok; (try rw [s3, s2, s1]); (try rw [c0]); (try rw [c2]); (try rw [c4]); (try rw [c6]); (try rfl)); have hnar : bnar a = bsgn (buns (bsgn a)) := (by unfold bnar; rw [hok]; rfl); rw [hok, hnar]; rw [s3, s2, s1]; (try rfl))
  intro e; (try simp only [e, Pi.eta, Pu.eta, Rg.eta, -eq_self]); clear e
  (have s1 := sgn_t (wfg) (by exact c1); have s2 := uns_t (r := bsgn a) (by rw [s1]; exact c3); have s3 := sgn_t (wf_buns (wf_bsgn wfg)) (by rw [s2, s1]; exact c5); have hok : bnok a = false := (by unfold bnok; (try rw [s3, s2, s1]); (try rw [c0]); (try rw [c2]); (try rw [c4]); (try rw [c6]); (try rfl)); have hnar : bnar a = ball := (by unfold bnar; rw [hok]; rfl); rw [hok, hnar]; (try rfl))
  intro e; (try simp only [e, Pi.eta, Pu.eta, Rg.eta, -eq_self]); clear e
  intro e; (try simp only [e, Pi.eta, Pu.eta, Rg.eta, -eq_self]); clear e
  refine ⟨fun c7 => ?_, fun c7 => ?_⟩
  intro e; (try simp only [e, Pi.eta, Pu.eta, Rg.eta, -eq_self]); clear e
  intro e; (try simp only [e, Pi.eta, Pu.eta, Rg.eta, -eq_self]); clear e
  (have s1 := sgn_t (wfg) (by exact c1); have s2 := uns_t (r := bsgn a) (by rw [s1]; exact c3); have s3 := sgn_f (wf_buns (wf_bsgn wfg)) (by rw [s2, s1]; exact c5); have hok : bnok a = true := (by unfold bnok; (try rw [s3, s2, s1]); (try rw [c0]); (try rw [c2]); (try rw [c4]); (try rw [c7]); (try rfl)); have hnar : bnar a = bsgn (buns (bsgn a)) := (by unfold bnar; rw [hok]; rfl); rw [hok, hnar]; rw [s3, s2, s1]; (try rfl))
  intro e; (try simp only [e, Pi.eta, Pu.eta, Rg.eta, -eq_self]); clear e
  exact absurd (c4.symm.trans c7) (by simp)
  intro e; (try simp only [e, Pi.eta, Pu.eta, Rg.eta, -eq_self]); clear e
  (have s1 := sgn_t (wfg) (by exact c1); have s2 := uns_t (r := bsgn a) (by rw [s1]; exact c3); have hok : bnok a = false := (by unfold bnok; (try rw [s2, s1]); (try rw [c0]); (try rw [c2]); (try rw [c4]); (try rfl)); have hnar : bnar a = ball := (by unfold bnar; rw [hok]; rfl); rw [hok, hnar]; (try rfl))
  intro e; (try simp only [e, Pi.eta, Pu.eta, Rg.eta, -eq_self]); clear e
  intro e; (try simp only [e, Pi.eta, Pu.eta, Rg.eta, -eq_self]); clear e
  refine ⟨fun c8 => ?_, fun c8 => ?_⟩
  intro e; (try simp only [e, Pi.eta, Pu.eta, Rg.eta, -eq_self]); clear e
  intro e; (try simp only [e, Pi.eta, Pu.eta, Rg.eta, -eq_self]); clear e
  refine ⟨fun c9 => ?_, fun c9 => ?_⟩
  intro e; (try simp only [e, Pi.eta, Pu.eta, Rg.eta, -eq_self]); clear e
  intro e; (try simp only [e, Pi.eta, Pu.eta, Rg.eta, -eq_self]); clear e
  intro e; (try simp only [e, Pi.eta, Pu.eta, Rg.eta, -eq_self]); clear e
  refine ⟨fun c10 => ?_, fun c10 => ?_⟩
  intro e; (try simp only [e, Pi.eta, Pu.eta, Rg.eta, -eq_self]); clear e
  intro e; (try simp only [e, Pi.eta, Pu.eta, Rg.eta, -eq_self]); clear e
  (have s1 := sgn_t (wfg) (by exact c1); have s2 := uns_f (r := bsgn a) (by rw [s1]; exact c3); have s3 := sgn_t (wf_buns (wf_bsgn wfg)) (by rw [s2, s1]; exact c9); have hok : bnok a = true := (by unfold bnok; (try rw [s3, s2, s1]); (try rw [c0]); (try rw [c2]); (try rw [c8]); (try rw [c10]); (try rfl)); have hnar : bnar a = bsgn (buns (bsgn a)) := (by unfold bnar; rw [hok]; rfl); rw [hok, hnar]; rw [s3, s2, s1]; (try rfl))
  intro e; (try simp only [e, Pi.eta, Pu.eta, Rg.eta, -eq_self]); clear e
  (have s1 := sgn_t (wfg) (by exact c1); have s2 := uns_f (r := bsgn a) (by rw [s1]; exact c3); have s3 := sgn_t (wf_buns (wf_bsgn wfg)) (by rw [s2, s1]; exact c9); have hok : bnok a = false := (by unfold bnok; (try rw [s3, s2, s1]); (try rw [c0]); (try rw [c2]); (try rw [c8]); (try rw [c10]); (try rfl)); have hnar : bnar a = ball := (by unfold bnar; rw [hok]; rfl); rw [hok, hnar]; (try rfl))
  intro e; (try simp only [e, Pi.eta, Pu.eta, Rg.eta, -eq_self]); clear e
  intro e; (try simp only [e, Pi.eta, Pu.eta, Rg.eta, -eq_self]); clear e
  refine ⟨fun c11 => ?_, fun c11 => ?_⟩
  intro e; (try simp only [e, Pi.eta, Pu.eta, Rg.eta, -eq_self]); clear e
  intro e; (try simp only [e, Pi.eta, Pu.eta, Rg.eta, -eq_self]); clear e
  (have s1 := sgn_t (wfg) (by exact c1); have s2 := uns_f (r := bsgn a) (by rw [s1]; exact c3); have s3 := sgn_f (wf_buns (wf_bsgn wfg)) (by rw [s2, s1]; exact c9); have hok : bnok a = true := (by unfold bnok; (try rw [s3, s2, s1]); (try rw [c0]); (try rw [c2]); (try rw [c8]); (try rw [c11]); (try rfl)); have hnar : bnar a = bsgn (buns (bsgn a)) := (by unfold bnar; rw [hok]; rfl); rw [hok, hnar]; rw [s3, s2, s1]; (try rfl))
  intro e; (try simp only [e, Pi.eta, Pu.eta, Rg.eta, -eq_self]); clear e
  exact absurd (c8.symm.trans c11) (by simp)
  intro e; (try simp only [e, Pi.eta, Pu.eta, Rg.eta, -eq_self]); clear e
  exact absurd (c2.symm.trans c8) (by simp)
  intro e; (try simp only [e, Pi.eta, Pu.eta, Rg.eta, -eq_self]); clear e
  (have s1 := sgn_t (wfg) (by exact c1); have hok : bnok a = false := (by unfold bnok; (try rw [s1]); (try rw [c0]); (try rw [c2]); (try rfl)); have hnar : bnar a = ball := (by unfold bnar; rw [hok]; rfl); rw [hok, hnar]; (try rfl))
  intro e; (try simp only [e, Pi.eta, Pu.eta, Rg.eta, -eq_self]); clear e
  intro e; (try simp only [e, Pi.eta, Pu.eta, Rg.eta, -eq_self]); clear e
  refine ⟨fun c12 => ?_, fun c12 => ?_⟩
  intro e; (try simp only [e, Pi.eta, Pu.eta, Rg.eta, -eq_self]); clear e
  intro e; (try simp only [e, Pi.eta, Pu.eta, Rg.eta, -eq_self]); clear e
  refine ⟨fun c13 => ?_, fun c13 => ?_⟩
  intro e; (try simp only [e, Pi.eta, Pu.eta, Rg.eta, -eq_self]); clear e
  intro e; (try simp only [e, Pi.eta, Pu.eta, Rg.eta, -eq_self]); clear e
  intro e; (try simp only [e, Pi.eta, Pu.eta, Rg.eta, -eq_self]); clear e
  refine ⟨fun c14 => ?_, fun c14 => ?_⟩
  intro e; (try simp only [e, Pi.eta, Pu.eta, Rg.eta, -eq_self]); clear e
  intro e; (try simp only [e, Pi.eta, Pu.eta, Rg.eta, -eq_self]); clear e
  refine ⟨fun c15 => ?_, fun c15 => ?_⟩
  intro e; (try simp only [e, Pi.eta, Pu.eta, Rg.eta, -eq_self]); clear e
  intro e; (try simp only [e, Pi.eta, Pu.eta, Rg.eta, -eq_self]); clear e
  intro e; (try simp only [e, Pi.eta, Pu.eta, Rg.eta, -eq_self]); clear e
  refine ⟨fun c16 => ?_, fun c16 => ?_⟩
  intro e; (try simp only [e, Pi.eta, Pu.eta, Rg.eta, -eq_self]); clear e
  intro e; (try simp only [e, Pi.eta, Pu.eta, Rg.eta, -eq_self]); clear e
  (have s1 := sgn_f (wfg) (by exact c1); have s2 := uns_t (r := bsgn a) (by rw [s1]; exact c13); have s3 := sgn_t (wf_buns (wf_bsgn wfg)) (by rw [s2, s1]; exact c15); have hok : bnok a = true := (by unfold bnok; (try rw [s3, s2, s1]); (try rw [c0]); (try rw [c12]); (try rw [c14]); (try rw [c16]); (try rfl)); have hnar : bnar a = bsgn (buns (bsgn a)) := (by unfold bnar; rw [hok]; rfl); rw [hok, hnar]; rw [s3, s2, s1]; (try rfl))
  intro e; (try simp only [e, Pi.eta, Pu.eta, Rg.eta, -eq_self]); clear e
  (have s1 := sgn_f (wfg) (by exact c1); have s2 := uns_t (r := bsgn a) (by rw [s1]; exact c13); have s3 := sgn_t (wf_buns (wf_bsgn wfg)) (by rw [s2, s1]; exact c15); have hok : bnok a = false := (by unfold bnok; (try rw [s3, s2, s1]); (try rw [c0]); (try rw [c12]); (try rw [c14]); (try rw [c16]); (try rfl)); have hnar : bnar a = ball := (by unfold bnar; rw [hok]; rfl); rw [hok, hnar]; (try rfl))
  intro e; (try simp only [e, Pi.eta, Pu.eta, Rg.eta, -eq_self]); clear e
  intro e; (try simp only [e, Pi.eta, Pu.eta, Rg.eta, -eq_self]); clear e
  refine ⟨fun c17 => ?_, fun c17 => ?_⟩
  intro e; (try simp only [e, Pi.eta, Pu.eta, Rg.eta, -eq_self]); clear e
  intro e; (try simp only [e, Pi.eta, Pu.eta, Rg.eta, -eq_self]); clear e
  (have s1 := sgn_f (wfg) (by exact c1); have s2 := uns_t (r := bsgn a) (by rw [s1]; exact c13); have s3 := sgn_f (wf_buns (wf_bsgn wfg)) (by rw [s2, s1]; exact c15); have hok : bnok a = true := (by unfold bnok; (try rw [s3, s2, s1]); (try rw [c0]); (try rw [c12]); (try rw [c14]); (try rw [c17]); (try rfl)); have hnar : bnar a = bsgn (buns (bsgn a)) := (by unfold bnar; rw [hok]; rfl); rw [hok, hnar]; rw [s3, s2, s1]; (try rfl))
  intro e; (try simp only [e, Pi.eta, Pu.eta, Rg.eta, -eq_self]); clear e
  exact absurd (c14.symm.trans c17) (by simp)
  intro e; (try simp only [e, Pi.eta, Pu.eta, Rg.eta, -eq_self]); clear e
  (have s1 := sgn_f (wfg) (by exact c1); have s2 := uns_t (r := bsgn a) (by rw [s1]; exact c13); have hok : bnok a = false := (by unfold bnok; (try rw [s2, s1]); (try rw [c0]); (try rw [c12]); (try rw [c14]); (try rfl)); have hnar : bnar a = ball := (by unfold bnar; rw [hok]; rfl); rw [hok, hnar]; (try rfl))
  intro e; (try simp only [e, Pi.eta, Pu.eta, Rg.eta, -eq_self]); clear e
  intro e; (try simp only [e, Pi.eta, Pu.eta, Rg.eta, -eq_self]); clear e
  refine ⟨fun c18 => ?_, fun c18 => ?_⟩
  intro e; (try simp only [e, Pi.eta, Pu.eta, Rg.eta, -eq_self]); clear e
  intro e; (try simp only [e, Pi.eta, Pu.eta, Rg.eta, -eq_self]); clear e
  refine ⟨fun c19 => ?_, fun c19 => ?_⟩
  intro e; (try simp only [e, Pi.eta, Pu.eta, Rg.eta, -eq_self]); clear e
  intro e; (try simp only [e, Pi.eta, Pu.eta, Rg.eta, -eq_self]); clear e
  intro e; (try simp only [e, Pi.eta, Pu.eta, Rg.eta, -eq_self]); clear e
  refine ⟨fun c20 => ?_, fun c20 => ?_⟩
  intro e; (try simp only [e, Pi.eta, Pu.eta, Rg.eta, -eq_self]); clear e
  intro e; (try simp only [e, Pi.eta, Pu.eta, Rg.eta, -eq_self]); clear e
  (have s1 := sgn_f (wfg) (by exact c1); have s2 := uns_f (r := bsgn a) (by rw [s1]; exact c13); have s3 := sgn_t (wf_buns (wf_bsgn wfg)) (by rw [s2, s1]; exact c19); have hok : bnok a = true := (by unfold bnok; (try rw [s3, s2, s1]); (try rw [c0]); (try rw [c12]); (try rw [c18]); (try rw [c20]); (try rfl)); have hnar : bnar a = bsgn (buns (bsgn a)) := (by unfold bnar; rw [hok]; rfl); rw [hok, hnar]; rw [s3, s2, s1]; (try rfl))
  intro e; (try simp only [e, Pi.eta, Pu.eta, Rg.eta, -eq_self]); clear e
  (have s1 := sgn_f (wfg) (by exact c1); have s2 := uns_f (r := bsgn a) (by rw [s1]; exact c13); have s3 := sgn_t (wf_buns (wf_bsgn wfg)) (by rw [s2, s1]; exact c19); have hok : bnok a = false := (by unfold bnok; (try rw [s3, s2, s1]); (try rw [c0]); (try rw [c12]); (try rw [c18]); (try rw [c20]); (try rfl)); have hnar : bnar a = ball := (by unfold bnar; rw [hok]; rfl); rw [hok, hnar]; (try rfl))
  intro e; (try simp only [e, Pi.eta, Pu.eta, Rg.eta, -eq_self]); clear e
  intro e; (try simp only [e, Pi.eta, Pu.eta, Rg.eta, -eq_self]); clear e
  refine ⟨fun c21 => ?_, fun c21 => ?_⟩
  intro e; (try simp only [e, Pi.eta, Pu.eta, Rg.eta, -eq_self]); clear e
  intro e; (try simp only [e, Pi.eta, Pu.eta, Rg.eta, -eq_self]); clear e
  (have s1 := sgn_f (wfg) (by exact c1); have s2 := uns_f (r := bsgn a) (by rw [s1]; exact c13); have s3 := sgn_f (wf_buns (wf_bsgn wfg)) (by rw [s2, s1]; exact c19); have hok : bnok a = true := (by unfold bnok; (try rw [s3, s2, s1]); (try rw [c0]); (try rw [c12]); (try rw [c18]); (try rw [c21]); (try rfl)); have hnar : bnar a = bsgn (buns (bsgn a)) := (by unfold bnar; rw [hok]; rfl); rw [hok, hnar]; rw [s3, s2, s1]; (try rfl))
  intro e; (try simp only [e, Pi.eta, Pu.eta, Rg.eta, -eq_self]); clear e
  exact absurd (c18.symm.trans c21) (by simp)
  intro e; (try simp only [e, Pi.eta, Pu.eta, Rg.eta, -eq_self]); clear e
  exact absurd (c12.symm.trans c18) (by simp)
  intro e; (try simp only [e, Pi.eta, Pu.eta, Rg.eta, -eq_self]); clear e
  exact absurd (c0.symm.trans c12) (by simp)
  intro e; (try simp only [e, Pi.eta, Pu.eta, Rg.eta, -eq_self]); clear e
  (have hok : bnok a = false := (by unfold bnok; (try rw [hok]); (try rw [c0]); (try rfl)); have hnar : bnar a = ball := (by unfold bnar; rw [hok]; rfl); rw [hok, hnar]; (try rfl))
theorem sK_nar {sp : Spec} {key : Nat} (hF : sp.F key = sF_nar) (hP : sp.pre key = fun _ => True := by rfl) : SmOk Tryz.prog sp (sM_nar key) :=
  fun_ok (s := sM_nar key) hF hP (by kernel_rfl) tysok_XbB (smc (sK_may rfl) (smc (sK_all rfl) (smc (sK_uns rfl) (smc (sK_sig rfl) (smc (sK_umeet rfl) (smc (sK_imeet rfl) (smc (sK_of rfl) sm0))))))) Tryz.func81 sR_nar (.inl rfl) (fun x0 gx0 x1 gx1 x2 gx2 x3 gx3 hp ρ g => sX_nar ⟨x0, x1, x2, x3⟩ ⟨gx0, gx1, gx2, gx3⟩ ρ g)
def sM_plus (key : Nat) : Sm := ⟨145, key, [.one (.int .i64), .one (.int .i64)], [.one (.int .i64), .one .bool], true⟩
def sV_plus (a : Int) (b : Int) : List Dt := [.z (IntKind.i64.wrap (a + b)), .z (b2i (decide (-9223372036854775808 ≤ a + b ∧ a + b ≤ 9223372036854775807)))]
def sF_plus : List Dt → List Dt
  | [.z x0, .z x1] => sV_plus x0 x1
  | _ => []
def sT_plus : Tr :=
(.leaf (.cons (.bin .add .i64 (.var 0) (.var 1)) (.consb (.not (.lt (.bin .and .i64 (.bin .xor .i64 (.var 0) (.bin .add .i64 (.var 0) (.var 1))) (.bin .xor .i64 (.var 1) (.bin .add .i64 (.var 0) (.var 1)))) (.lit 0))) .nil)))
def sP_plus : Spec := ⟨fun k => match k with | _ => fun _ => [], fun k => match k with | _ => fun _ => True⟩
set_option maxRecDepth 100000 in
theorem sR_plus : treeIs tys_XbB [] [] [] 200 Tryz.f145 [.one (.int .i64), .one (.int .i64)] [.one (.int .i64), .one .bool] true [.int .i64, .int .i64] sT_plus := ⟨by kernel_rfl, by kernel_rfl, by kernel_rfl⟩
set_option maxRecDepth 100000 in
set_option maxHeartbeats 8000000 in
theorem sX_plus (a : Int) (ha : inK .i64 a = true) (b : Int) (hb : inK .i64 b = true) (ρ : Env) (g : varsD ρ 0 [.int .i64, .int .i64] = [.z a, .z b]) : sT_plus.asks sP_plus (fun ρ e => e.D ρ = sF_plus [.z a, .z b]) ρ fun _ _ => False := by
  simp only [varsD, varD, List.cons.injEq, Dt.z.injEq, Dt.l.injEq, b2i_eq_iff, Nat.reduceAdd, and_true] at g
  simp only [sT_plus, sP_plus, sF_plus, sV_plus, Tr.asks, upd_same, okDs, okD, eqs, E.I, E.B, E.L, E.R, E.D, E.vs, dI, dB, dL, varD, varsD, List.getElem?_cons_zero, List.getElem?_cons_succ, List.cons_append, List.nil_append, Nat.zero_add, Nat.add_zero, Nat.reduceAdd, and_true, true_and, b2i_one, -eq_self, g]
  (have ga := inK_i64 ha; have gb := inK_i64 hb; simp only [opI, ← not_lt_le, ← plus_fine ga.1 ga.2 gb.1 gb.2, Go.IntWalk.i64_left])
theorem sK_plus {sp : Spec} {key : Nat} (hF : sp.F key = sF_plus) (hP : sp.pre key = fun _ => True := by rfl) : SmOk Tryz.prog sp (sM_plus key) :=
  fun_ok (s := sM_plus key) hF hP (by kernel_rfl) tysok_XbB (sm0) Tryz.func145 sR_plus (.inl rfl) (fun x0 gx0 x1 gx1 hp ρ g => sX_plus x0 gx0 x1 gx1 ρ g)
def sM_minus (key : Nat) : Sm := ⟨146, key, [.one (.int .i64), .one (.int .i64)], [.one (.int .i64), .one .bool], true⟩
def sV_minus (a : Int) (b : Int) : List Dt := [.z (IntKind.i64.wrap (a - b)), .z (b2i (decide (-9223372036854775808 ≤ a - b ∧ a - b ≤ 9223372036854775807)))]
def sF_minus : List Dt → List Dt
  | [.z x0, .z x1] => sV_minus x0 x1
  | _ => []
def sT_minus : Tr :=
(.leaf (.cons (.bin .sub .i64 (.var 0) (.var 1)) (.consb (.not (.lt (.bin .and .i64 (.bin .xor .i64 (.var 0) (.var 1)) (.bin .xor .i64 (.var 0) (.bin .sub .i64 (.var 0) (.var 1)))) (.lit 0))) .nil)))
def sP_minus : Spec := ⟨fun k => match k with | _ => fun _ => [], fun k => match k with | _ => fun _ => True⟩
set_option maxRecDepth 100000 in
theorem sR_minus : treeIs tys_XbB [] [] [] 200 Tryz.f146 [.one (.int .i64), .one (.int .i64)] [.one (.int .i64), .one .bool] true [.int .i64, .int .i64] sT_minus := ⟨by kernel_rfl, by kernel_rfl, by kernel_rfl⟩
set_option maxRecDepth 100000 in
set_option maxHeartbeats 8000000 in
theorem sX_minus (a : Int) (ha : inK .i64 a = true) (b : Int) (hb : inK .i64 b = true) (ρ : Env) (g : varsD ρ 0 [.int .i64, .int .i64] = [.z a, .z b]) : sT_minus.asks sP_minus (fun ρ e => e.D ρ = sF_minus [.z a, .z b]) ρ fun _ _ => False := by
  simp only [varsD, varD, List.cons.injEq, Dt.z.injEq, Dt.l.injEq, b2i_eq_iff, Nat.reduceAdd, and_true] at g
  simp only [sT_minus, sP_minus, sF_minus, sV_minus, Tr.asks, upd_same, okDs, okD, eqs, E.I, E.B, E.L, E.R, E.D, E.vs, dI, dB, dL, varD, varsD, List.getElem?_cons_zero, List.getElem?_cons_succ, List.cons_append, List.nil_append, Nat.zero_add, Nat.add_zero, Nat.reduceAdd, and_true, true_and, b2i_one, -eq_self, g]
  (have ga := inK_i64 ha; have gb := inK_i64 hb; simp only [opI, ← not_lt_le, ← minus_fine ga.1 ga.2 gb.1 gb.2, Go.IntWalk.i64_left])
theorem sK_minus {sp : Spec} {key : Nat} (hF : sp.F key = sF_minus) (hP : sp.pre key = fun _ => True := by rfl) : SmOk Tryz.prog sp (sM_minus key) :=
  fun_ok (s := sM_minus key) hF hP (by kernel_rfl) tysok_XbB (sm0) Tryz.func146 sR_minus (.inl rfl) (fun x0 gx0 x1 gx1 hp ρ g => sX_minus x0 gx0 x1 gx1 ρ g)
def sM_nard (key : Nat) : Sm := ⟨109, key, [.agg kRg], [.agg kRg], false⟩
def sV_nard (a : Rg) : List Dt := [.z ((bnar a).ul), .z ((bnar a).uh), .z ((bnar a).sl), .z ((bnar a).sh)]
def sF_nard : List Dt → List Dt
  | [.z x0, .z x1, .z x2, .z x3] => sV_nard ⟨x0, x1, x2, x3⟩
  | _ => []
def sT_nard : Tr :=
(.call 0 (kRg ++ [.bool]) (.vs 0 4 .nil) 4
(.leaf (.vs 4 4 .nil)))
def sP_nard : Spec := ⟨fun k => match k with | 0 => sF_nar | _ => fun _ => [], fun k => match k with | _ => fun _ => True⟩
set_option maxRecDepth 100000 in
theorem sR_nard : treeIs tys_XbB [sM_nar 0] [] [] 200 Tryz.f109 [.agg kRg] [.agg kRg] false [.int .u64, .int .u64, .int .i64, .int .i64] sT_nard := ⟨by kernel_rfl, by kernel_rfl, by kernel_rfl⟩
set_option maxRecDepth 100000 in
set_option maxHeartbeats 8000000 in
theorem sX_nard (a : Rg) (ha : Rg.ok a) (ρ : Env) (g : varsD ρ 0 [.int .u64, .int .u64, .int .i64, .int .i64] = [.z a.ul, .z a.uh, .z a.sl, .z a.sh]) : sT_nard.asks sP_nard (fun ρ e => e.D ρ = sF_nard [.z a.ul, .z a.uh, .z a.sl, .z a.sh]) ρ fun _ _ => False := by
  simp only [varsD, varD, List.cons.injEq, Dt.z.injEq, Dt.l.injEq, b2i_eq_iff, Nat.reduceAdd, and_true] at g
  simp only [sT_nard, sP_nard, kRg, sF_nar, sV_nar, sF_nard, sV_nard, Tr.asks, upd_same, okDs, okD, eqs, E.I, E.B, E.L, E.R, E.D, E.vs, dI, dB, dL, varD, varsD, List.getElem?_cons_zero, List.getElem?_cons_succ, List.cons_append, List.nil_append, Nat.zero_add, Nat.add_zero, Nat.reduceAdd, and_true, true_and, b2i_one, -eq_self, Pi.eta, Pu.eta, Rg.eta, g]
  intro e; (try simp only [e, Pi.eta, Pu.eta, Rg.eta, -eq_self]); clear e
  rfl
theorem sK_nard {sp : Spec} {key : Nat} (hF : sp.F key = sF_nard) (hP : sp.pre key = fun _ => True := by rfl) : SmOk Tryz.prog sp (sM_nard key) :=
  fun_ok (s := sM_nard key) hF hP (by kernel_rfl) tysok_XbB (smc (sK_nar rfl) sm0) Tryz.func109 sR_nard (.inl rfl) (fun x0 gx0 x1 gx1 x2 gx2 x3 gx3 hp ρ g => sX_nard ⟨x0, x1, x2, x3⟩ ⟨gx0, gx1, gx2, gx3⟩ ρ g)
def sM_meet (key : Nat) : Sm := ⟨30, key, [.agg kRg, .agg kRg], [.agg kRg, .one .bool], true⟩
def sV_meet (a : Rg) (b : Rg) : List Dt := [.z ((bmeet a b).ul), .z ((bmeet a b).uh), .z ((bmeet a b).sl), .z ((bmeet a b).sh), .z (b2i (bmeets a b))]
def sF_meet : List Dt → List Dt
  | [.z x0, .z x1, .z x2, .z x3, .z x4, .z x5, .z x6, .z x7] => sV_meet ⟨x0, x1, x2, x3⟩ ⟨x4, x5, x6, x7⟩
  | _ => []
def sT_meet : Tr :=
(.call 0 ([.bool]) (.vs 0 4 .nil) 8
(.br (.bvar 8)
(.call 0 ([.bool]) (.vs 4 4 .nil) 9
(.br (.bvar 9)
(.call 2 (kPu) (.vs 0 4 .nil) 10
(.call 2 (kPu) (.vs 4 4 .nil) 12
(.call 4 (kPu) (.vs 10 4 .nil) 14
(.call 3 (kPi) (.vs 0 4 .nil) 16
(.call 3 (kPi) (.vs 4 4 .nil) 18
(.call 5 (kPi) (.vs 16 4 .nil) 20
(.call 6 (kRg) (.vs 14 2 (.vs 20 2 .nil)) 22
(.call 7 (kRg ++ [.bool]) (.vs 22 4 .nil) 26
(.leaf (.vs 26 4 (.consb (.bvar 30) .nil)))))))))))
(.call 1 (kRg) .nil 10
(.leaf (.vs 10 4 (.consb (.tt false) .nil))))))
(.call 1 (kRg) .nil 9
(.leaf (.vs 9 4 (.consb (.tt false) .nil))))))
def sP_meet : Spec := ⟨fun k => match k with | 0 => sF_may | 1 => sF_all | 2 => sF_uns | 3 => sF_sig | 4 => sF_umeet | 5 => sF_imeet | 6 => sF_of | 7 => sF_nar | _ => fun _ => [], fun k => match k with | _ => fun _ => True⟩
set_option maxRecDepth 100000 in
theorem sR_meet : treeIs tys_XbB [sM_may 0, sM_all 1, sM_uns 2, sM_sig 3, sM_umeet 4, sM_imeet 5, sM_of 6, sM_nar 7] [] [] 200 Tryz.f30 [.agg kRg, .agg kRg] [.agg kRg, .one .bool] true [.int .u64, .int .u64, .int .i64, .int .i64, .int .u64, .int .u64, .int .i64, .int .i64] sT_meet := ⟨by kernel_rfl, by kernel_rfl, by kernel_rfl⟩
set_option maxRecDepth 100000 in
set_option maxHeartbeats 8000000 in
theorem sX_meet (a : Rg) (ha : Rg.ok a) (b : Rg) (hb : Rg.ok b) (ρ : Env) (g : varsD ρ 0 [.int .u64, .int .u64, .int .i64, .int .i64, .int .u64, .int .u64, .int .i64, .int .i64] = [.z a.ul, .z a.uh, .z a.sl, .z a.sh, .z b.ul, .z b.uh, .z b.sl, .z b.sh]) : sT_meet.asks sP_meet (fun ρ e => e.D ρ = sF_meet [.z a.ul, .z a.uh, .z a.sl, .z a.sh, .z b.ul, .z b.uh, .z b.sl, .z b.sh]) ρ fun _ _ => False := by
  simp only [varsD, varD, List.cons.injEq, Dt.z.injEq, Dt.l.injEq, b2i_eq_iff, Nat.reduceAdd, and_true] at g
  simp only [sT_meet, sP_meet, kPi, kPu, kRg, sF_may, sF_all, sF_uns, sF_sig, sF_umeet, sF_imeet, sF_of, sF_nar, sV_may, sV_uns, sV_sig, sV_umeet, sV_imeet, sV_of, sV_nar, sF_meet, sV_meet, Tr.asks, upd_same, okDs, okD, eqs, E.I, E.B, E.L, E.R, E.D, E.vs, dI, dB, dL, varD, varsD, List.getElem?_cons_zero, List.getElem?_cons_succ, List.cons_append, List.nil_append, Nat.zero_add, Nat.add_zero, Nat.reduceAdd, and_true, true_and, b2i_one, -eq_self, Pi.eta, Pu.eta, Rg.eta, g]
  intro e; (try simp only [e, Pi.eta, Pu.eta, Rg.eta, -eq_self]); clear e
  refine ⟨fun c0 => ?_, fun c0 => ?_⟩
  intro e; (try simp only [e, Pi.eta, Pu.eta, Rg.eta, -eq_self]); clear e
  refine ⟨fun c1 => ?_, fun c1 => ?_⟩
  intro e; (try simp only [e, Pi.eta, Pu.eta, Rg.eta, -eq_self]); clear e
  intro e; (try simp only [e, Pi.eta, Pu.eta, Rg.eta, -eq_self]); clear e
  intro e; (try simp only [e, Pi.eta, Pu.eta, Rg.eta, -eq_self]); clear e
  intro e; (try simp only [e, Pi.eta, Pu.eta, Rg.eta, -eq_self]); clear e
  intro e; (try simp only [e, Pi.eta, Pu.eta, Rg.eta, -eq_self]); clear e
  intro e; (try simp only [e, Pi.eta, Pu.eta, Rg.eta, -eq_self]); clear e
  intro e; (try simp only [e, Pi.eta, Pu.eta, Rg.eta, -eq_self]); clear e
  intro e; (try simp only [e, Pi.eta, Pu.eta, Rg.eta, -eq_self]); clear e
  (unfold bmeet bmeets; simp_all [bmeet0, bnar_if])
  intro e; (try simp only [e, Pi.eta, Pu.eta, Rg.eta, -eq_self]); clear e
  (unfold bmeet bmeets; simp_all [bmeet0, bnar_if])
  intro e; (try simp only [e, Pi.eta, Pu.eta, Rg.eta, -eq_self]); clear e
  (unfold bmeet bmeets; simp_all [bmeet0, bnar_if])
theorem sK_meet {sp : Spec} {key : Nat} (hF : sp.F key = sF_meet) (hP : sp.pre key = fun _ => True := by rfl) : SmOk Tryz.prog sp (sM_meet key) :=
  fun_ok (s := sM_meet key) hF hP (by kernel_rfl) tysok_XbB (smc (sK_may rfl) (smc (sK_all rfl) (smc (sK_uns rfl) (smc (sK_sig rfl) (smc (sK_umeet rfl) (smc (sK_imeet rfl) (smc (sK_of rfl) (smc (sK_nar rfl) sm0)))))))) Tryz.func30 sR_meet (.inl rfl) (fun x0 gx0 x1 gx1 x2 gx2 x3 gx3 x4 gx4 x5 gx5 x6 gx6 x7 gx7 hp ρ g => sX_meet ⟨x0, x1, x2, x3⟩ ⟨gx0, gx1, gx2, gx3⟩ ⟨x4, x5, x6, x7⟩ ⟨gx4, gx5, gx6, gx7⟩ ρ g)
def sM_in (key : Nat) : Sm := ⟨62, key, [.agg kRg, .agg kRg], [.one .bool], false⟩
def sV_in (a : Rg) (b : Rg) : List Dt := [.z (b2i (bin a b))]
def sF_in : List Dt → List Dt
  | [.z x0, .z x1, .z x2, .z x3, .z x4, .z x5, .z x6, .z x7] => sV_in ⟨x0, x1, x2, x3⟩ ⟨x4, x5, x6, x7⟩
  | _ => []
def sT_in : Tr :=
(.call 0 ([.bool]) (.vs 0 4 .nil) 8
(.br (.bvar 8)
(.call 0 ([.bool]) (.vs 4 4 .nil) 9
(.br (.bvar 9)
(.call 1 (kRg) (.vs 0 8 .nil) 10
(.leaf (.consb (.and (.eq (.var 10) (.var 4)) (.and (.eq (.var 11) (.var 5)) (.and (.eq (.var 12) (.var 6)) (.and (.eq (.var 13) (.var 7)) (.tt true))))) .nil)))
(.leaf (.consb (.tt false) .nil))))
(.leaf (.consb (.tt false) .nil))))
def sP_in : Spec := ⟨fun k => match k with | 0 => sF_may | 1 => sF_join | _ => fun _ => [], fun k => match k with | _ => fun _ => True⟩
set_option maxRecDepth 100000 in
theorem sR_in : treeIs tys_XbB [sM_may 0, sM_join 1] [] [] 200 Tryz.f62 [.agg kRg, .agg kRg] [.one .bool] false [.int .u64, .int .u64, .int .i64, .int .i64, .int .u64, .int .u64, .int .i64, .int .i64] sT_in := ⟨by kernel_rfl, by kernel_rfl, by kernel_rfl⟩
set_option maxRecDepth 100000 in
set_option maxHeartbeats 8000000 in
theorem sX_in (a : Rg) (ha : Rg.ok a) (b : Rg) (hb : Rg.ok b) (ρ : Env) (g : varsD ρ 0 [.int .u64, .int .u64, .int .i64, .int .i64, .int .u64, .int .u64, .int .i64, .int .i64] = [.z a.ul, .z a.uh, .z a.sl, .z a.sh, .z b.ul, .z b.uh, .z b.sl, .z b.sh]) : sT_in.asks sP_in (fun ρ e => e.D ρ = sF_in [.z a.ul, .z a.uh, .z a.sl, .z a.sh, .z b.ul, .z b.uh, .z b.sl, .z b.sh]) ρ fun _ _ => False := by
  simp only [varsD, varD, List.cons.injEq, Dt.z.injEq, Dt.l.injEq, b2i_eq_iff, Nat.reduceAdd, and_true] at g
  simp only [sT_in, sP_in, kRg, sF_may, sF_join, sV_may, sV_join, sF_in, sV_in, Tr.asks, upd_same, okDs, okD, eqs, E.I, E.B, E.L, E.R, E.D, E.vs, dI, dB, dL, varD, varsD, List.getElem?_cons_zero, List.getElem?_cons_succ, List.cons_append, List.nil_append, Nat.zero_add, Nat.add_zero, Nat.reduceAdd, and_true, true_and, b2i_one, -eq_self, Pi.eta, Pu.eta, Rg.eta, g]
  intro e; (try simp only [e, Pi.eta, Pu.eta, Rg.eta, -eq_self]); clear e
  refine ⟨fun c0 => ?_, fun c0 => ?_⟩
  intro e; (try simp only [e, Pi.eta, Pu.eta, Rg.eta, -eq_self]); clear e
  refine ⟨fun c1 => ?_, fun c1 => ?_⟩
  intro e; (try simp only [e, Pi.eta, Pu.eta, Rg.eta, -eq_self]); clear e
  (unfold bin; simp_all [Rg.ext_iff]; try (rw [Bool.eq_iff_iff]; simp))
  (unfold bin; simp_all [Rg.ext_iff]; try (rw [Bool.eq_iff_iff]; simp))
  (unfold bin; simp_all [Rg.ext_iff]; try (rw [Bool.eq_iff_iff]; simp))
theorem sK_in {sp : Spec} {key : Nat} (hF : sp.F key = sF_in) (hP : sp.pre key = fun _ => True := by rfl) : SmOk Tryz.prog sp (sM_in key) :=
  fun_ok (s := sM_in key) hF hP (by kernel_rfl) tysok_XbB (smc (sK_may rfl) (smc (sK_join rfl) sm0)) Tryz.func62 sR_in (.inl rfl) (fun x0 gx0 x1 gx1 x2 gx2 x3 gx3 x4 gx4 x5 gx5 x6 gx6 x7 gx7 hp ρ g => sX_in ⟨x0, x1, x2, x3⟩ ⟨gx0, gx1, gx2, gx3⟩ ⟨x4, x5, x6, x7⟩ ⟨gx4, gx5, gx6, gx7⟩ ρ g)
def sM_low (key : Nat) : Sm := ⟨118, key, [.agg kRg], [.agg kRg], false⟩
def sV_low (a : Rg) : List Dt := [.z ((blow a).ul), .z ((blow a).uh), .z ((blow a).sl), .z ((blow a).sh)]
def sF_low : List Dt → List Dt
  | [.z x0, .z x1, .z x2, .z x3] => sV_low ⟨x0, x1, x2, x3⟩
  | _ => []
def sT_low : Tr :=
(.call 0 ([.bool]) (.vs 0 4 .nil) 4
(.br (.bvar 4)
(.br (.lt (.lit 4294967295) (.var 1))
(.call 1 (kRg) .nil 5
(.call 2 (kRg) (.cons (.var 5) (.cons (.lit 4294967295) (.vs 7 2 .nil))) 9
(.leaf (.vs 9 4 .nil))))
(.leaf (.vs 0 4 .nil)))
(.call 1 (kRg) .nil 5
(.call 2 (kRg) (.cons (.var 5) (.cons (.lit 4294967295) (.vs 7 2 .nil))) 9
(.leaf (.vs 9 4 .nil))))))
def sP_low : Spec := ⟨fun k => match k with | 0 => sF_may | 1 => sF_all | 2 => sF_nard | _ => fun _ => [], fun k => match k with | _ => fun _ => True⟩
set_option maxRecDepth 100000 in
theorem sR_low : treeIs tys_XbB [sM_may 0, sM_all 1, sM_nard 2] [] [] 200 Tryz.f118 [.agg kRg] [.agg kRg] false [.int .u64, .int .u64, .int .i64, .int .i64] sT_low := ⟨by kernel_rfl, by kernel_rfl, by kernel_rfl⟩
set_option maxRecDepth 100000 in
set_option maxHeartbeats 8000000 in
theorem sX_low (a : Rg) (ha : Rg.ok a) (ρ : Env) (g : varsD ρ 0 [.int .u64, .int .u64, .int .i64, .int .i64] = [.z a.ul, .z a.uh, .z a.sl, .z a.sh]) : sT_low.asks sP_low (fun ρ e => e.D ρ = sF_low [.z a.ul, .z a.uh, .z a.sl, .z a.sh]) ρ fun _ _ => False := by
  simp only [varsD, varD, List.cons.injEq, Dt.z.injEq, Dt.l.injEq, b2i_eq_iff, Nat.reduceAdd, and_true] at g
  simp only [sT_low, sP_low, kRg, sF_may, sF_all, sF_nard, sV_may, sV_nard, sF_low, sV_low, Tr.asks, upd_same, okDs, okD, eqs, E.I, E.B, E.L, E.R, E.D, E.vs, dI, dB, dL, varD, varsD, List.getElem?_cons_zero, List.getElem?_cons_succ, List.cons_append, List.nil_append, Nat.zero_add, Nat.add_zero, Nat.reduceAdd, and_true, true_and, b2i_one, -eq_self, Pi.eta, Pu.eta, Rg.eta, g]
  intro e; (try simp only [e, Pi.eta, Pu.eta, Rg.eta, -eq_self]); clear e
  refine ⟨fun c0 => ?_, fun c0 => ?_⟩
  refine ⟨fun c1 => ?_, fun c1 => ?_⟩
  intro e; (try simp only [e, Pi.eta, Pu.eta, Rg.eta, -eq_self]); clear e
  intro e; (try simp only [e, Pi.eta, Pu.eta, Rg.eta, -eq_self]); clear e
  (rw [show blow a = bnar (bu 0 4294967295) from if_neg (fun q => absurd (of_decide_eq_true c1) (Int.not_lt.2 q.2))]; try rfl)
  (rw [show blow a = a from if_pos ⟨c0, Int.not_lt.1 (of_decide_eq_false c1)⟩]; try rfl)
  intro e; (try simp only [e, Pi.eta, Pu.eta, Rg.eta, -eq_self]); clear e
  intro e; (try simp only [e, Pi.eta, Pu.eta, Rg.eta, -eq_self]); clear e
  (rw [show blow a = bnar (bu 0 4294967295) from if_neg (fun q => by rw [c0] at q; exact absurd q.1 (by simp))]; try rfl)
theorem sK_low {sp : Spec} {key : Nat} (hF : sp.F key = sF_low) (hP : sp.pre key = fun _ => True := by rfl) : SmOk Tryz.prog sp (sM_low key) :=
  fun_ok (s := sM_low key) hF hP (by kernel_rfl) tysok_XbB (smc (sK_may rfl) (smc (sK_all rfl) (smc (sK_nard rfl) sm0))) Tryz.func118 sR_low (.inl rfl) (fun x0 gx0 x1 gx1 x2 gx2 x3 gx3 hp ρ g => sX_low ⟨x0, x1, x2, x3⟩ ⟨gx0, gx1, gx2, gx3⟩ ρ g)
end Go.Proofs.YtcfnglbcgkappaaGreat

/- What Do of package bounds comes to, operation by operation, as its run has it: plain laws. -/
set_option linter.unusedSectionVars false
set_option linter.unusedVariables false
set_option linter.unusedSimpArgs false
namespace Go.Proofs.YtcfnglbcgkappaaGreat
open Go Go.RowKit
theorem agg4 {x0 x1 x2 x3 y0 y1 y2 y3 : Int} (h0 : x0 = y0) (h1 : x1 = y1) (h2 : x2 = y2) (h3 : x3 = y3) : [Dt.z x0, .z x1, .z x2, .z x3] = [Dt.z y0, .z y1, .z y2, .z y3] := by rw [h0, h1, h2, h3]
theorem agg_Rg {r s : Rg} (h : r = s) : [Dt.z r.ul, .z r.uh, .z r.sl, .z r.sh] = [Dt.z s.ul, .z s.uh, .z s.sl, .z s.sh] := by rw [h]
def xsum (t : Bool) (a b : Rg) : Rg :=
  match t with
  | false => ⟨if a.uh + b.uh ≤ 18446744073709551615 then IntKind.u64.wrap (a.ul + b.ul) else 0, if a.uh + b.uh ≤ 18446744073709551615 then a.uh + b.uh else 18446744073709551615, (bsum a b).sl, (bsum a b).sh⟩
  | true => ⟨if b.uh ≤ a.ul then IntKind.u64.wrap (a.ul - b.uh) else 0, if b.uh ≤ a.ul then IntKind.u64.wrap (a.uh - b.ul) else 18446744073709551615, (bdif a b).sl, (bdif a b).sh⟩
section
variable {a b : Rg} (ha : a.ok) (hb : b.ok)
theorem sum_s1 (h1 : decide (-9223372036854775808 ≤ a.sl + b.sl ∧ a.sl + b.sl ≤ 9223372036854775807) = true) (h2 : decide (-9223372036854775808 ≤ a.sh + b.sh ∧ a.sh + b.sh ≤ 9223372036854775807) = true) :
    IntKind.i64.wrap (a.sl + b.sl) = (xsum false a b).sl ∧ IntKind.i64.wrap (a.sh + b.sh) = (xsum false a b).sh := by
  have h1 := of_decide_eq_true h1; have h2 := of_decide_eq_true h2
  simp only [xsum, bsum]
  rw [if_pos ⟨h1, h2⟩, if_pos ⟨h1, h2⟩, w_i64, w_i64]
  omega
theorem sum_s0 (h : decide (-9223372036854775808 ≤ a.sl + b.sl ∧ a.sl + b.sl ≤ 9223372036854775807) = false ∨ decide (-9223372036854775808 ≤ a.sh + b.sh ∧ a.sh + b.sh ≤ 9223372036854775807) = false) :
    ball.sl = (xsum false a b).sl ∧ ball.sh = (xsum false a b).sh := by
  have hn : ¬ ((-9223372036854775808 ≤ a.sl + b.sl ∧ a.sl + b.sl ≤ 9223372036854775807) ∧ (-9223372036854775808 ≤ a.sh + b.sh ∧ a.sh + b.sh ≤ 9223372036854775807)) := fun q => by
    rcases h with h | h
    · exact of_decide_eq_false h q.1
    · exact of_decide_eq_false h q.2
  simp only [xsum, bsum]
  rw [if_neg hn, if_neg hn]
  exact ⟨rfl, rfl⟩
theorem dif_s1 (h1 : decide (-9223372036854775808 ≤ a.sl - b.sh ∧ a.sl - b.sh ≤ 9223372036854775807) = true) (h2 : decide (-9223372036854775808 ≤ a.sh - b.sl ∧ a.sh - b.sl ≤ 9223372036854775807) = true) :
    IntKind.i64.wrap (a.sl - b.sh) = (xsum true a b).sl ∧ IntKind.i64.wrap (a.sh - b.sl) = (xsum true a b).sh := by
  have h1 := of_decide_eq_true h1; have h2 := of_decide_eq_true h2
  simp only [xsum, bdif]
  rw [if_pos ⟨h1, h2⟩, if_pos ⟨h1, h2⟩, w_i64, w_i64]
  omega
theorem dif_s0 (h : decide (-9223372036854775808 ≤ a.sl - b.sh ∧ a.sl - b.sh ≤ 9223372036854775807) = false ∨ decide (-9223372036854775808 ≤ a.sh - b.sl ∧ a.sh - b.sl ≤ 9223372036854775807) = false) :
    ball.sl = (xsum true a b).sl ∧ ball.sh = (xsum true a b).sh := by
  have hn : ¬ ((-9223372036854775808 ≤ a.sl - b.sh ∧ a.sl - b.sh ≤ 9223372036854775807) ∧ (-9223372036854775808 ≤ a.sh - b.sl ∧ a.sh - b.sl ≤ 9223372036854775807)) := fun q => by
    rcases h with h | h
    · exact of_decide_eq_false h q.1
    · exact of_decide_eq_false h q.2
  simp only [xsum, bdif]
  rw [if_neg hn, if_neg hn]
  exact ⟨rfl, rfl⟩
include ha hb
theorem sum_u1 (h : ((a.uh + b.uh) / 18446744073709551616 == 0) = true) : opI .add .u64 a.ul b.ul = (xsum false a b).ul ∧ (a.uh + b.uh) % 18446744073709551616 = (xsum false a b).uh := by
  have h := beq_iff_eq.1 h
  have wa := (Rg.wf_of ha).2.1; have wb := (Rg.wf_of hb).2.1
  have hc : a.uh + b.uh ≤ 18446744073709551615 := by omega
  simp only [xsum]
  rw [if_pos hc, if_pos hc]
  exact ⟨rfl, by omega⟩
theorem sum_u0 (h : ((a.uh + b.uh) / 18446744073709551616 == 0) = false) : ball.ul = (xsum false a b).ul ∧ ball.uh = (xsum false a b).uh := by
  have h := beq_eq_false_iff_ne.1 h
  have wa := (Rg.wf_of ha).2.1; have wb := (Rg.wf_of hb).2.1
  have hc : ¬ a.uh + b.uh ≤ 18446744073709551615 := by omega
  simp only [xsum]
  rw [if_neg hc, if_neg hc]
  exact ⟨rfl, rfl⟩
omit ha hb
theorem dif_u1 (h : decide (a.ul < b.uh) = false) : opI .sub .u64 a.ul b.uh = (xsum true a b).ul ∧ opI .sub .u64 a.uh b.ul = (xsum true a b).uh := by
  have hc : b.uh ≤ a.ul := Int.not_lt.1 (of_decide_eq_false h)
  simp only [xsum]
  rw [if_pos hc, if_pos hc]
  exact ⟨rfl, rfl⟩
theorem dif_u0 (h : decide (a.ul < b.uh) = true) : ball.ul = (xsum true a b).ul ∧ ball.uh = (xsum true a b).uh := by
  have hc : ¬ b.uh ≤ a.ul := Int.not_le.2 (of_decide_eq_true h)
  simp only [xsum]
  rw [if_neg hc, if_neg hc]
  exact ⟨rfl, rfl⟩
end
theorem bdo_of {op : Int} {a b : Rg} (ma : bmay a = true) (mb : bmay b = true) {X : Rg} (h : X = bdo0 op a b) : bnar X = bdo op a b := by
  unfold bdo; rw [if_pos ⟨ma, mb⟩, h]
theorem xsum_f {a b : Rg} (ha : a.ok) (hb : b.ok) (ma : bmay a = true) (mb : bmay b = true) : xsum false a b = bsum a b := by
  have wa := Rg.wf_of ha; have wb := Rg.wf_of hb
  rw [bmay_iff] at ma mb
  obtain ⟨⟨a0, a1⟩, ⟨a2, a3⟩, _⟩ := wa
  obtain ⟨⟨b0, b1⟩, ⟨b2, b3⟩, _⟩ := wb
  rw [Rg.ext_iff]
  refine ⟨?_, rfl, rfl, rfl⟩
  simp only [xsum, bsum]
  split
  · rw [w_u64]; omega
  · rfl
theorem xsum_t {a b : Rg} (ha : a.ok) (hb : b.ok) (ma : bmay a = true) (mb : bmay b = true) : xsum true a b = bdif a b := by
  have wa := Rg.wf_of ha; have wb := Rg.wf_of hb
  rw [bmay_iff] at ma mb
  obtain ⟨⟨a0, a1⟩, ⟨a2, a3⟩, _⟩ := wa
  obtain ⟨⟨b0, b1⟩, ⟨b2, b3⟩, _⟩ := wb
  rw [Rg.ext_iff]
  refine ⟨?_, ?_, rfl, rfl⟩ <;> simp only [xsum, bdif] <;> split
  · rw [w_u64]; omega
  · rfl
  · rw [w_u64]; omega
  · rfl
theorem eqz {x z : Int} (h : (x == z) = true) : x = z := by simpa using h
theorem nez {x z : Int} (h : (x == z) = false) : x ≠ z := by simpa using h
theorem fill_eq {m : Int} (h0 : 0 ≤ m) (h1 : m ≤ 18446744073709551615) : opI .sub .u64 (opI .shl .u64 1 (blenN m.toNat)) 1 = bfill m := by
  have hb : blenN m.toNat ≤ 64 := blen_le (by omega)
  have h2 := bfill_bd h1
  unfold bfill at h2 ⊢
  show IntKind.u64.wrap (IntKind.u64.wrap (1 * 2 ^ min ((blenN m.toNat : Int).toNat) 64) - 1) = _
  rw [Int.toNat_natCast, Nat.min_eq_left hb, Int.one_mul]
  generalize (2 : Int) ^ blenN m.toNat = t at *
  rw [w_u64, w_u64]
  omega
theorem opI_quo {x y : Int} (x0 : 0 ≤ x) (x1 : x ≤ 18446744073709551615) (y0 : 0 < y) : opI .quo .u64 x y = x / y := by
  show IntKind.u64.wrap (x.tdiv y) = _
  rw [Int.tdiv_eq_ediv_of_nonneg x0, w_u64]
  have := div_bd (z := y) x0 x1 y0
  omega
theorem by_eq {b : Rg} (hb : b.ok) (h : bones b = true) : opI .and .u64 (bsingle b) 63 = ((bby b : Nat) : Int) ∧ bby b < 64 := by
  have wb := Rg.wf_of hb
  have e : bsingle b = b.ul := by unfold bsingle; rw [h]; simp
  show bits .and .u64 (bsingle b) 63 = _ ∧ _
  rw [e, and63 _ wb.1.1 wb.1.2]
  unfold bby
  omega
theorem opI_shr {x : Int} {k : Nat} (x0 : 0 ≤ x) (hk : k < 64) : opI .shr .u64 x (k : Int) = x / 2 ^ k := by
  show x.fdiv (2 ^ min (k : Int).toNat 64) = _
  rw [Int.toNat_natCast, Nat.min_eq_left (by omega), Int.fdiv_eq_ediv_of_nonneg _ (Int.le_of_lt (Int.pow_pos (by omega)))]
theorem opI_shl {x : Int} {k : Nat} (hk : k < 64) (h : 0 ≤ x * 2 ^ k) (h' : x * 2 ^ k ≤ 18446744073709551615) : opI .shl .u64 x (k : Int) = x * 2 ^ k := by
  show IntKind.u64.wrap (x * 2 ^ min (k : Int).toNat 64) = _
  rw [Int.toNat_natCast, Nat.min_eq_left (by omega), w_u64]
  omega
section
variable {op : Int} {a b : Rg} (ha : a.ok) (hb : b.ok) (ma : bmay a = true) (mb : bmay b = true)
include ha hb ma mb
theorem dq_11 (h : (op == 11) = true) : bnar b = bdo op a b := bdo_of ma mb (by rw [eqz h]; simp [bdo0])
theorem dq_0 (h : (op == 0) = true) : bnar (xsum (op == 1) a b) = bdo op a b := bdo_of ma mb (by rw [eqz h]; rw [show ((0 : Int) == 1) = false from rfl, xsum_f ha hb ma mb]; simp [bdo0])
theorem dq_1 (h : (op == 1) = true) : bnar (xsum (op == 1) a b) = bdo op a b := bdo_of ma mb (by rw [h, eqz h, xsum_t ha hb ma mb]; simp [bdo0])
theorem dq_5 (h : (op == 5) = true) : bnar ⟨ball.ul, min a.uh b.uh, ball.sl, ball.sh⟩ = bdo op a b := bdo_of ma mb (by rw [eqz h]; simp [bdo0, bu, ball])
theorem mx_bd : 0 ≤ max a.uh b.uh ∧ max a.uh b.uh ≤ 18446744073709551615 := by
  have wa := Rg.wf_of ha; have wb := Rg.wf_of hb
  have := wa.2.1; have := wb.2.1
  omega
theorem dq_4 (h : (op == 4) = true) : bnar ⟨max a.ul b.ul, opI .sub .u64 (opI .shl .u64 1 (blenN (max a.uh b.uh).toNat)) 1, ball.sl, ball.sh⟩ = bdo op a b := bdo_of ma mb (by
  have := mx_bd ha hb ma mb
  rw [eqz h, fill_eq this.1 this.2]; simp [bdo0, bu, ball])
theorem dq_10 (h : (op == 10) = true) : bnar ⟨ball.ul, opI .sub .u64 (opI .shl .u64 1 (blenN (max a.uh b.uh).toNat)) 1, ball.sl, ball.sh⟩ = bdo op a b := bdo_of ma mb (by
  have := mx_bd ha hb ma mb
  rw [eqz h, fill_eq this.1 this.2]; simp [bdo0, bu, ball])
theorem dq_3 (h : (op == 3) = true) (hc : decide (0 < b.ul) = true) : bnar ⟨opI .quo .u64 a.ul b.uh, opI .quo .u64 a.uh b.ul, ball.sl, ball.sh⟩ = bdo op a b := bdo_of ma mb (by
  have hc := of_decide_eq_true hc
  have wa := Rg.wf_of ha
  rw [bmay_iff] at mb
  rw [eqz h, opI_quo wa.1.1 wa.1.2 (by omega), opI_quo wa.2.1.1 wa.2.1.2 hc]; simp [bdo0, bu, ball, hc])
theorem dq_3n (h : (op == 3) = true) (hc : decide (0 < b.ul) = false) : bnar ⟨ball.ul, a.uh, ball.sl, ball.sh⟩ = bdo op a b := bdo_of ma mb (by
  have hc := of_decide_eq_false hc
  rw [eqz h]; simp [bdo0, bu, ball, hc])
theorem dq_9 (h : (op == 9) = true) (hc : decide (0 < b.ul) = true) : bnar ⟨ball.ul, min a.uh (opI .sub .u64 b.uh 1), ball.sl, ball.sh⟩ = bdo op a b := bdo_of ma mb (by
  have hc := of_decide_eq_true hc
  have wb := Rg.wf_of hb
  rw [bmay_iff] at mb
  rw [eqz h, show opI .sub .u64 b.uh 1 = b.uh - 1 from by show IntKind.u64.wrap (b.uh - 1) = _; rw [w_u64]; have := wb.2.1; omega]; simp [bdo0, bu, ball, hc])
theorem dq_9n (h : (op == 9) = true) (hc : decide (0 < b.ul) = false) : bnar ⟨ball.ul, a.uh, ball.sl, ball.sh⟩ = bdo op a b := bdo_of ma mb (by
  have hc := of_decide_eq_false hc
  rw [eqz h]; simp [bdo0, bu, ball, hc])
theorem dq_7 (h : (op == 7) = true) (hc : bones b = true) : bnar ⟨opI .shr .u64 a.ul (opI .and .u64 (bsingle b) 63), opI .shr .u64 a.uh (opI .and .u64 (bsingle b) 63), ball.sl, ball.sh⟩ = bdo op a b := bdo_of ma mb (by
  have wa := Rg.wf_of ha
  obtain ⟨e, e2⟩ := by_eq hb hc
  rw [eqz h, e, opI_shr wa.1.1 e2, opI_shr wa.2.1.1 e2]; simp [bdo0, bu, ball, hc])
theorem dq_7n (h : (op == 7) = true) (hc : bones b = false) : bnar ball = bdo op a b := bdo_of ma mb (by
  rw [eqz h]; simp [bdo0, hc])
theorem lz_c (hc : bones b = true) : decide (64 - (blenN a.uh.toNat : Int) < IntKind.i64.wrap (opI .and .u64 (bsingle b) 63)) = !decide (blenN a.uh.toNat + bby b ≤ 64) := by
  obtain ⟨e, e2⟩ := by_eq hb hc
  rw [e, w_i64]
  rw [Bool.eq_iff_iff]
  simp
  omega
theorem dq_6 (h : (op == 6) = true) (hc : bones b = true) (hl : decide (64 - (blenN a.uh.toNat : Int) < IntKind.i64.wrap (opI .and .u64 (bsingle b) 63)) = false) : bnar ⟨opI .shl .u64 a.ul (opI .and .u64 (bsingle b) 63), opI .shl .u64 a.uh (opI .and .u64 (bsingle b) 63), ball.sl, ball.sh⟩ = bdo op a b := bdo_of ma mb (by
  have wa := Rg.wf_of ha
  rw [lz_c ha hb ma mb hc] at hl
  have hl' : blenN a.uh.toNat + bby b ≤ 64 := by simpa using hl
  obtain ⟨e, e2⟩ := by_eq hb hc
  rw [bmay_iff] at ma
  obtain ⟨h1, h2, h3⟩ := shl_bd wa.1.1 ma.1 hl'
  rw [eqz h, e, opI_shl e2 h1 (by omega), opI_shl e2 (by omega) h3]; simp [bdo0, bu, ball, hc, hl'])
theorem dq_6n (h : (op == 6) = true) (hc : bones b = true) (hl : decide (64 - (blenN a.uh.toNat : Int) < IntKind.i64.wrap (opI .and .u64 (bsingle b) 63)) = true) : bnar ball = bdo op a b := bdo_of ma mb (by
  rw [lz_c ha hb ma mb hc] at hl
  have hl' : ¬ blenN a.uh.toNat + bby b ≤ 64 := by simpa using hl
  rw [eqz h]; simp [bdo0, hc, hl'])
theorem dq_6m (h : (op == 6) = true) (hc : bones b = false) : bnar ball = bdo op a b := bdo_of ma mb (by
  rw [eqz h]; simp [bdo0, hc])
theorem dq_x (h11 : (op == 11) = false) (h0 : (op == 0) = false) (h1 : (op == 1) = false) (h5 : (op == 5) = false) (h4 : (op == 4) = false) (h10 : (op == 10) = false) (h3 : (op == 3) = false) (h9 : (op == 9) = false) (h7 : (op == 7) = false) (h6 : (op == 6) = false) : bnar ball = bdo op a b := bdo_of ma mb (by
  unfold bdo0
  rw [if_neg (nez h11), if_neg (nez h0), if_neg (nez h1), if_neg (nez h5), if_neg (nez h4), if_neg (nez h10), if_neg (nez h3), if_neg (nez h9), if_neg (nez h7), if_neg (nez h6)])
end
theorem dq_bad {op : Int} {a b : Rg} (h : bmay a = false ∨ bmay b = false) : ball = bdo op a b := by
  unfold bdo
  rw [if_neg (fun e => by rcases h with h | h <;> simp [h] at e)]
theorem tup_Rg {r s : Rg} {t u : Bool} (h : r = s) (h' : t = u) : [Dt.z r.ul, .z r.uh, .z r.sl, .z r.sh, .z (b2i t)] = [Dt.z s.ul, .z s.uh, .z s.sl, .z s.sh, .z (b2i u)] := by rw [h, h']
section
variable {cc : Int} {a b X : Rg}
theorem gv_can (c0 : cc ≠ 0) (hg : bgood cc a b = true) (hc : bcan cc a b = true) (e : X = brng cc a b) : bnar X = bgiv cc a b ∧ bnok X = bgok cc a b := by
  subst e
  have h1 : bgok cc a b = bnok (brng cc a b) := by unfold bgok; rw [hg, hc, if_neg c0]; rfl
  refine ⟨?_, h1.symm⟩
  unfold bgiv
  rw [h1, if_neg c0]
  cases h : bnok (brng cc a b)
  · unfold bnar; rw [h]; simp
  · simp
theorem gv_not (h : bgood cc a b = false ∨ (cc ≠ 0 ∧ bcan cc a b = false)) : ball = bgiv cc a b ∧ false = bgok cc a b := by
  have h1 : bgok cc a b = false := by
    unfold bgok
    rcases h with h | ⟨h0, h⟩
    · rw [h]; rfl
    · rw [h, if_neg h0]; simp
  exact ⟨by unfold bgiv; rw [h1]; simp, h1.symm⟩
theorem gv_eq (hg : bgood 0 a b = true) : bmeet a b = bgiv 0 a b ∧ bmeets a b = bgok 0 a b := by
  have e : bgok 0 a b = bmeets a b := by unfold bgok; rw [hg]; rfl
  refine ⟨?_, e.symm⟩
  unfold bgiv
  rw [e]
  cases h : bmeets a b
  · unfold bmeet; rw [h]; simp
  · simp
theorem gv_good (c0 : bmay a = true) (c1 : bmay b = true) (h : 0 ≤ cc ∧ cc ≤ 10) : bgood cc a b = true := by
  unfold bgood; rw [c0, c1, decide_eq_true h.1, decide_eq_true h.2]; rfl
end
end Go.Proofs.YtcfnglbcgkappaaGreat

/- What each condition of Given of package bounds comes to, as its run has it: plain laws. -/
set_option linter.unusedSectionVars false
set_option linter.unusedVariables false
set_option linter.unusedSimpArgs false
namespace Go.Proofs.YtcfnglbcgkappaaGreat
open Go Go.RowKit
section
variable {a b : Rg} (ha : a.ok) (hb : b.ok)
include ha hb
theorem gvn_2 (h : (!(((2 : Int) == 2) && (b.ul == 18446744073709551615))) = false) : bcan 2 a b = false := by
  have h2 : b.ul = 18446744073709551615 := by simpa using h
  simp [bcan, h2]
theorem gvc_2 (h : (!(((2 : Int) == 2) && (b.ul == 18446744073709551615))) = true) : bcan 2 a b = true := by
  have h2 : b.ul ≠ 18446744073709551615 := by simpa using h
  simp [bcan, h2]
theorem gvr_2 (h : (!(((2 : Int) == 2) && (b.ul == 18446744073709551615))) = true) : (⟨if ((2 : Int) == 2) = true ∧ (b.ul == 18446744073709551615) = true then a.ul else max a.ul (if ((2 : Int) == 2) = true then IntKind.u64.wrap (b.ul + 1) else b.ul), a.uh, a.sl, a.sh⟩ : Rg) = brng 2 a b := by
  have h2 : b.ul ≠ 18446744073709551615 := by simpa using h
  have wa := Rg.wf_of ha
  have wb := Rg.wf_of hb
  obtain ⟨⟨a0, a1⟩, ⟨a2, a3⟩, ⟨a4, a5⟩, a6, a7⟩ := wa
  obtain ⟨⟨b0, b1⟩, ⟨b2, b3⟩, ⟨b4, b5⟩, b6, b7⟩ := wb
  have h3 : IntKind.u64.wrap (b.ul + 1) = b.ul + 1 := by rw [w_u64]; omega
  simp [brng, Rg.ext_iff, h2, h3]
theorem gvc_3 (h : (!(((3 : Int) == 2) && (b.ul == 18446744073709551615))) = true) : bcan 3 a b = true := by simp [bcan]
theorem gvr_3 (h : (!(((3 : Int) == 2) && (b.ul == 18446744073709551615))) = true) : (⟨if ((3 : Int) == 2) = true ∧ (b.ul == 18446744073709551615) = true then a.ul else max a.ul (if ((3 : Int) == 2) = true then IntKind.u64.wrap (b.ul + 1) else b.ul), a.uh, a.sl, a.sh⟩ : Rg) = brng 3 a b := by simp [brng, Rg.ext_iff]
theorem gvn_4 (h : (!(((4 : Int) == 4) && (b.uh == 0))) = false) : bcan 4 a b = false := by
  have h2 : b.uh = 0 := by simpa using h
  simp [bcan, h2]
theorem gvc_4 (h : (!(((4 : Int) == 4) && (b.uh == 0))) = true) : bcan 4 a b = true := by
  have h2 : b.uh ≠ 0 := by simpa using h
  simp [bcan, h2]
theorem gvr_4 (h : (!(((4 : Int) == 4) && (b.uh == 0))) = true) : (⟨a.ul, if ((4 : Int) == 4) = true ∧ (b.uh == 0) = true then a.uh else min a.uh (if ((4 : Int) == 4) = true then IntKind.u64.wrap (b.uh - 1) else b.uh), a.sl, a.sh⟩ : Rg) = brng 4 a b := by
  have h2 : b.uh ≠ 0 := by simpa using h
  have wa := Rg.wf_of ha
  have wb := Rg.wf_of hb
  obtain ⟨⟨a0, a1⟩, ⟨a2, a3⟩, ⟨a4, a5⟩, a6, a7⟩ := wa
  obtain ⟨⟨b0, b1⟩, ⟨b2, b3⟩, ⟨b4, b5⟩, b6, b7⟩ := wb
  have h3 : IntKind.u64.wrap (b.uh - 1) = b.uh - 1 := by rw [w_u64]; omega
  simp [brng, Rg.ext_iff, h2, h3]
theorem gvc_5 (h : (!(((5 : Int) == 4) && (b.uh == 0))) = true) : bcan 5 a b = true := by simp [bcan]
theorem gvr_5 (h : (!(((5 : Int) == 4) && (b.uh == 0))) = true) : (⟨a.ul, if ((5 : Int) == 4) = true ∧ (b.uh == 0) = true then a.uh else min a.uh (if ((5 : Int) == 4) = true then IntKind.u64.wrap (b.uh - 1) else b.uh), a.sl, a.sh⟩ : Rg) = brng 5 a b := by simp [brng, Rg.ext_iff]
theorem gvn_6 (h : (!(((6 : Int) == 6) && (b.sl == 9223372036854775807))) = false) : bcan 6 a b = false := by
  have h2 : b.sl = 9223372036854775807 := by simpa using h
  simp [bcan, h2]
theorem gvc_6 (h : (!(((6 : Int) == 6) && (b.sl == 9223372036854775807))) = true) : bcan 6 a b = true := by
  have h2 : b.sl ≠ 9223372036854775807 := by simpa using h
  simp [bcan, h2]
theorem gvr_6 (h : (!(((6 : Int) == 6) && (b.sl == 9223372036854775807))) = true) : (⟨a.ul, a.uh, if ((6 : Int) == 6) = true ∧ (b.sl == 9223372036854775807) = true then a.sl else max a.sl (if ((6 : Int) == 6) = true then IntKind.i64.wrap (b.sl + 1) else b.sl), a.sh⟩ : Rg) = brng 6 a b := by
  have h2 : b.sl ≠ 9223372036854775807 := by simpa using h
  have wa := Rg.wf_of ha
  have wb := Rg.wf_of hb
  obtain ⟨⟨a0, a1⟩, ⟨a2, a3⟩, ⟨a4, a5⟩, a6, a7⟩ := wa
  obtain ⟨⟨b0, b1⟩, ⟨b2, b3⟩, ⟨b4, b5⟩, b6, b7⟩ := wb
  have h3 : IntKind.i64.wrap (b.sl + 1) = b.sl + 1 := by rw [w_i64]; omega
  simp [brng, Rg.ext_iff, h2, h3]
theorem gvc_7 (h : (!(((7 : Int) == 6) && (b.sl == 9223372036854775807))) = true) : bcan 7 a b = true := by simp [bcan]
theorem gvr_7 (h : (!(((7 : Int) == 6) && (b.sl == 9223372036854775807))) = true) : (⟨a.ul, a.uh, if ((7 : Int) == 6) = true ∧ (b.sl == 9223372036854775807) = true then a.sl else max a.sl (if ((7 : Int) == 6) = true then IntKind.i64.wrap (b.sl + 1) else b.sl), a.sh⟩ : Rg) = brng 7 a b := by simp [brng, Rg.ext_iff]
theorem gvn_8 (h : (!(((8 : Int) == 8) && (b.sh == (-9223372036854775808)))) = false) : bcan 8 a b = false := by
  have h2 : b.sh = (-9223372036854775808) := by simpa using h
  simp [bcan, h2]
theorem gvc_8 (h : (!(((8 : Int) == 8) && (b.sh == (-9223372036854775808)))) = true) : bcan 8 a b = true := by
  have h2 : b.sh ≠ (-9223372036854775808) := by simpa using h
  simp [bcan, h2]
theorem gvr_8 (h : (!(((8 : Int) == 8) && (b.sh == (-9223372036854775808)))) = true) : (⟨a.ul, a.uh, a.sl, if ((8 : Int) == 8) = true ∧ (b.sh == (-9223372036854775808)) = true then a.sh else min a.sh (if ((8 : Int) == 8) = true then IntKind.i64.wrap (b.sh - 1) else b.sh)⟩ : Rg) = brng 8 a b := by
  have h2 : b.sh ≠ (-9223372036854775808) := by simpa using h
  have wa := Rg.wf_of ha
  have wb := Rg.wf_of hb
  obtain ⟨⟨a0, a1⟩, ⟨a2, a3⟩, ⟨a4, a5⟩, a6, a7⟩ := wa
  obtain ⟨⟨b0, b1⟩, ⟨b2, b3⟩, ⟨b4, b5⟩, b6, b7⟩ := wb
  have h3 : IntKind.i64.wrap (b.sh - 1) = b.sh - 1 := by rw [w_i64]; omega
  simp [brng, Rg.ext_iff, h2, h3]
theorem gvc_9 (h : (!(((9 : Int) == 8) && (b.sh == (-9223372036854775808)))) = true) : bcan 9 a b = true := by simp [bcan]
theorem gvr_9 (h : (!(((9 : Int) == 8) && (b.sh == (-9223372036854775808)))) = true) : (⟨a.ul, a.uh, a.sl, if ((9 : Int) == 8) = true ∧ (b.sh == (-9223372036854775808)) = true then a.sh else min a.sh (if ((9 : Int) == 8) = true then IntKind.i64.wrap (b.sh - 1) else b.sh)⟩ : Rg) = brng 9 a b := by simp [brng, Rg.ext_iff]
theorem gvc_10 : bcan 10 a b = true := by simp [bcan]
theorem gvr_10 : a = brng 10 a b := by simp [brng]
theorem gvc_1n (h : bones b = false) : bcan 1 a b = true := by simp [bcan, h]
theorem gvr_1n (h : bones b = false) : a = brng 1 a b := by simp [brng, h]
theorem gvn_1 (h : bones b = true) (hu : (!((a.ul == bsingle b) && (a.uh == bsingle b))) = false ∨ (!((a.sl == IntKind.i64.wrap (bsingle b)) && (a.sh == IntKind.i64.wrap (bsingle b)))) = false) : bcan 1 a b = false := by
  have hs : bsingle b = b.ul := by unfold bsingle; rw [h]; simp
  have ht : IntKind.i64.wrap b.ul = s64 b.ul := (s64_wrap _).symm
  rw [hs, ht] at hu
  simp only [bcan, h, if_true]
  rcases hu with hu | hu
  · simp at hu; simp [hu]
  · simp at hu; simp [hu]
theorem gvc_1 (h : bones b = true) (hu : (!((a.ul == bsingle b) && (a.uh == bsingle b))) = true) (hv : (!((a.sl == IntKind.i64.wrap (bsingle b)) && (a.sh == IntKind.i64.wrap (bsingle b)))) = true) : bcan 1 a b = true := by
  have hs : bsingle b = b.ul := by unfold bsingle; rw [h]; simp
  have ht : IntKind.i64.wrap b.ul = s64 b.ul := (s64_wrap _).symm
  rw [hs] at hu
  rw [hs, ht] at hv
  simp only [bcan, h, if_true]
  simp at hu hv ⊢
  exact ⟨hu, hv⟩
theorem gvr_1 (ma : bmay a = true) (h : bones b = true) (hu : (!((a.ul == bsingle b) && (a.uh == bsingle b))) = true) (hv : (!((a.sl == IntKind.i64.wrap (bsingle b)) && (a.sh == IntKind.i64.wrap (bsingle b)))) = true) : (⟨if (a.ul == bsingle b) = true ∧ (a.uh == bsingle b) = false then IntKind.u64.wrap (a.ul + 1) else a.ul, if (a.ul == bsingle b) = false ∧ (a.uh == bsingle b) = true then IntKind.u64.wrap (a.uh - 1) else a.uh, if (a.sl == IntKind.i64.wrap (bsingle b)) = true ∧ (a.sh == IntKind.i64.wrap (bsingle b)) = false then IntKind.i64.wrap (a.sl + 1) else a.sl, if (a.sl == IntKind.i64.wrap (bsingle b)) = false ∧ (a.sh == IntKind.i64.wrap (bsingle b)) = true then IntKind.i64.wrap (a.sh - 1) else a.sh⟩ : Rg) = brng 1 a b := by
  have hs : bsingle b = b.ul := by unfold bsingle; rw [h]; simp
  have ht : IntKind.i64.wrap b.ul = s64 b.ul := (s64_wrap _).symm
  rw [hs] at hu
  rw [hs, ht] at hv
  rw [hs, ht]
  have wa := Rg.wf_of ha
  have wb := Rg.wf_of hb
  obtain ⟨⟨a0, a1⟩, ⟨a2, a3⟩, ⟨a4, a5⟩, a6, a7⟩ := wa
  obtain ⟨⟨b0, b1⟩, ⟨b2, b3⟩, ⟨b4, b5⟩, b6, b7⟩ := wb
  have sb := s64_bd b.ul
  rw [bmay_iff] at ma
  simp only [brng, h, if_true, Rg.ext_iff]
  generalize s64 b.ul = t at *
  simp only [Bool.not_eq_true', Bool.and_eq_false_iff, beq_eq_false_iff_ne, ne_eq] at hu hv
  simp only [beq_iff_eq, beq_eq_false_iff_ne, ne_eq, w_u64, w_i64]
  refine ⟨?_, ?_, ?_, ?_⟩ <;> (split <;> (try split) <;> omega)
end
end Go.Proofs.YtcfnglbcgkappaaGreat
