/- Contracts of the small functions of package bounds, by the symbolic run. -/
import Derived.Test.YtgfghplnankgnaaSyZd
import Derived.Test.YtgfghplnankgnaaBdZ
import Derived.Test.YtgfghplnankgnaaProg
import Derived.Laws.Externs
set_option linter.unusedVariables false
set_option linter.unusedSimpArgs false
namespace Go.Proofs.Ytgfghplnankgnaa
open Go.RowKit Go.ChangeShapes Go.WideShapes

structure Pu where
  lo : Int
  hi : Int
structure Pi where
  lo : Int
  hi : Int
theorem Rg.eta (a : Rg) : (⟨a.ul, a.uh, a.sl, a.sh⟩ : Rg) = a := rfl
def Rg.ok (a : Rg) : Prop := inK .u64 a.ul = true ∧ inK .u64 a.uh = true ∧ inK .i64 a.sl = true ∧ inK .i64 a.sh = true
def kRg : List CK := [.int .u64, .int .u64, .int .i64, .int .i64]
theorem Pu.eta (a : Pu) : (⟨a.lo, a.hi⟩ : Pu) = a := rfl
def Pu.ok (a : Pu) : Prop := inK .u64 a.lo = true ∧ inK .u64 a.hi = true
def kPu : List CK := [.int .u64, .int .u64]
theorem Pi.eta (a : Pi) : (⟨a.lo, a.hi⟩ : Pi) = a := rfl
def Pi.ok (a : Pi) : Prop := inK .i64 a.lo = true ∧ inK .i64 a.hi = true
def kPi : List CK := [.int .i64, .int .i64]
def tys_XbA : List (Nat × TI) := [(2, ⟨false, 1, [.int .i64 (.lit 0)], [], none, some .i64, false, false, none, 8, false, none, false⟩),
 (23, ⟨false, 1, [.int .u64 (.lit 0)], [], none, some .u64, false, false, none, 8, false, none, false⟩),
 (25, ⟨true, 4, [.int .u64 (.lit 0), .int .u64 (.lit 0), .int .i64 (.lit 0), .int .i64 (.lit 0)], [(0, 23), (1, 23), (2, 2), (3, 2)], none, none, false, false, none, 32, false, none, false⟩),
 (88, ⟨true, 2, [.int .u64 (.lit 0), .int .u64 (.lit 0)], [(0, 23), (1, 23)], none, none, false, false, none, 16, false, none, false⟩),
 (92, ⟨true, 2, [.int .i64 (.lit 0), .int .i64 (.lit 0)], [(0, 2), (1, 2)], none, none, false, false, none, 16, false, none, false⟩)]
set_option maxRecDepth 100000 in
theorem tysck_XbA : (tys_XbA.all fun p => ckTI Try.prog p.1 p.2) = true := by kernel_rfl
theorem tyseq_XbA : (tys_XbA.all fun p => !p.2.eqok) = true := by kernel_rfl
theorem tyskn_XbA : (tys_XbA.all fun p => !p.2.keyok) = true := by kernel_rfl
theorem tysok_XbA : ∀ t i, (t, i) ∈ tys_XbA → TIok Try.prog t i := by
  intro t i h
  refine TIok_of (all_at (f := ckTI Try.prog) tysck_XbA h) (fun he => ?_) (fun he => ?_) (fun he => ?_)
  · have h1 := List.all_eq_true.1 tyseq_XbA (t, i) h
    simp [he] at h1
  · have h1 := List.all_eq_true.1 tyseq_XbA (t, i) h
    simp [he] at h1
  · have h1 := List.all_eq_true.1 tyskn_XbA (t, i) h
    simp [he] at h1
def sM_uns (key : Nat) : Sm := ⟨50, key, [.agg kRg], [.agg kPu], false⟩
def sV_uns (a : Rg) : List Dt := [.z (((⟨a.ul, a.uh⟩ : Pu)).lo), .z (((⟨a.ul, a.uh⟩ : Pu)).hi)]
def sF_uns : List Dt → List Dt
  | [.z x0, .z x1, .z x2, .z x3] => sV_uns ⟨x0, x1, x2, x3⟩
  | _ => []
def sT_uns : Tr :=
(.leaf (.vs 0 2 .nil))
def sP_uns : Spec := ⟨fun k => match k with | _ => fun _ => [], fun k => match k with | _ => fun _ => True⟩
set_option maxRecDepth 100000 in
theorem sR_uns : treeIs tys_XbA [] [] [] [] 200 Try.f50 [.agg kRg] [.agg kPu] false [.int .u64, .int .u64, .int .i64, .int .i64] sT_uns := ⟨by kernel_rfl, by kernel_rfl, by kernel_rfl⟩
set_option maxRecDepth 100000 in
set_option maxHeartbeats 8000000 in
theorem sX_uns (a : Rg) (ha : Rg.ok a) (ρ : Env) (g : varsD ρ 0 [.int .u64, .int .u64, .int .i64, .int .i64] = [.z a.ul, .z a.uh, .z a.sl, .z a.sh]) : sT_uns.asks sP_uns (fun ρ e => e.D ρ = sF_uns [.z a.ul, .z a.uh, .z a.sl, .z a.sh]) ρ fun _ _ => False := by
  simp only [varsD, varD, List.cons.injEq, Dt.z.injEq, Dt.l.injEq, b2i_eq_iff, Nat.reduceAdd, and_true] at g
  simp only [sT_uns, sP_uns, sF_uns, sV_uns, Tr.asks, upd_same, okDs, okD, eqs, E.I, E.B, E.L, E.R, E.D, E.vs, dI, dB, dL, varD, varsD, List.getElem?_cons_zero, List.getElem?_cons_succ, List.cons_append, List.nil_append, Nat.zero_add, Nat.add_zero, Nat.reduceAdd, and_true, true_and, b2i_one, -eq_self, Rg.eta, g]
  · rfl
theorem sK_uns {sp : Spec} {key : Nat} (hF : sp.F key = sF_uns) (hP : sp.pre key = fun _ => True := by rfl) : SmOk Try.prog sp (sM_uns key) :=
  fun_ok (s := sM_uns key) hF hP (by kernel_rfl) tysok_XbA (sm0) Try.func50 fn0 sR_uns (.inl rfl) (fun x0 gx0 x1 gx1 x2 gx2 x3 gx3 hp ρ g => sX_uns ⟨x0, x1, x2, x3⟩ ⟨gx0, gx1, gx2, gx3⟩ ρ g)
def sM_sig (key : Nat) : Sm := ⟨52, key, [.agg kRg], [.agg kPi], false⟩
def sV_sig (a : Rg) : List Dt := [.z (((⟨a.sl, a.sh⟩ : Pi)).lo), .z (((⟨a.sl, a.sh⟩ : Pi)).hi)]
def sF_sig : List Dt → List Dt
  | [.z x0, .z x1, .z x2, .z x3] => sV_sig ⟨x0, x1, x2, x3⟩
  | _ => []
def sT_sig : Tr :=
(.leaf (.vs 2 2 .nil))
def sP_sig : Spec := ⟨fun k => match k with | _ => fun _ => [], fun k => match k with | _ => fun _ => True⟩
set_option maxRecDepth 100000 in
theorem sR_sig : treeIs tys_XbA [] [] [] [] 200 Try.f52 [.agg kRg] [.agg kPi] false [.int .u64, .int .u64, .int .i64, .int .i64] sT_sig := ⟨by kernel_rfl, by kernel_rfl, by kernel_rfl⟩
set_option maxRecDepth 100000 in
set_option maxHeartbeats 8000000 in
theorem sX_sig (a : Rg) (ha : Rg.ok a) (ρ : Env) (g : varsD ρ 0 [.int .u64, .int .u64, .int .i64, .int .i64] = [.z a.ul, .z a.uh, .z a.sl, .z a.sh]) : sT_sig.asks sP_sig (fun ρ e => e.D ρ = sF_sig [.z a.ul, .z a.uh, .z a.sl, .z a.sh]) ρ fun _ _ => False := by
  simp only [varsD, varD, List.cons.injEq, Dt.z.injEq, Dt.l.injEq, b2i_eq_iff, Nat.reduceAdd, and_true] at g
  simp only [sT_sig, sP_sig, sF_sig, sV_sig, Tr.asks, upd_same, okDs, okD, eqs, E.I, E.B, E.L, E.R, E.D, E.vs, dI, dB, dL, varD, varsD, List.getElem?_cons_zero, List.getElem?_cons_succ, List.cons_append, List.nil_append, Nat.zero_add, Nat.add_zero, Nat.reduceAdd, and_true, true_and, b2i_one, -eq_self, Rg.eta, g]
  · rfl
theorem sK_sig {sp : Spec} {key : Nat} (hF : sp.F key = sF_sig) (hP : sp.pre key = fun _ => True := by rfl) : SmOk Try.prog sp (sM_sig key) :=
  fun_ok (s := sM_sig key) hF hP (by kernel_rfl) tysok_XbA (sm0) Try.func52 fn0 sR_sig (.inl rfl) (fun x0 gx0 x1 gx1 x2 gx2 x3 gx3 hp ρ g => sX_sig ⟨x0, x1, x2, x3⟩ ⟨gx0, gx1, gx2, gx3⟩ ρ g)
def sM_umay (key : Nat) : Sm := ⟨59, key, [.agg kPu], [.one .bool], false⟩
def sV_umay (a : Pu) : List Dt := [.z (b2i (decide (a.lo ≤ a.hi)))]
def sF_umay : List Dt → List Dt
  | [.z x0, .z x1] => sV_umay ⟨x0, x1⟩
  | _ => []
def sT_umay : Tr :=
(.leaf (.consb (.not (.lt (.var 1) (.var 0))) .nil))
def sP_umay : Spec := ⟨fun k => match k with | _ => fun _ => [], fun k => match k with | _ => fun _ => True⟩
set_option maxRecDepth 100000 in
theorem sR_umay : treeIs tys_XbA [] [] [] [] 200 Try.f59 [.agg kPu] [.one .bool] false [.int .u64, .int .u64] sT_umay := ⟨by kernel_rfl, by kernel_rfl, by kernel_rfl⟩
set_option maxRecDepth 100000 in
set_option maxHeartbeats 8000000 in
theorem sX_umay (a : Pu) (ha : Pu.ok a) (ρ : Env) (g : varsD ρ 0 [.int .u64, .int .u64] = [.z a.lo, .z a.hi]) : sT_umay.asks sP_umay (fun ρ e => e.D ρ = sF_umay [.z a.lo, .z a.hi]) ρ fun _ _ => False := by
  simp only [varsD, varD, List.cons.injEq, Dt.z.injEq, Dt.l.injEq, b2i_eq_iff, Nat.reduceAdd, and_true] at g
  simp only [sT_umay, sP_umay, sF_umay, sV_umay, Tr.asks, upd_same, okDs, okD, eqs, E.I, E.B, E.L, E.R, E.D, E.vs, dI, dB, dL, varD, varsD, List.getElem?_cons_zero, List.getElem?_cons_succ, List.cons_append, List.nil_append, Nat.zero_add, Nat.add_zero, Nat.reduceAdd, and_true, true_and, b2i_one, -eq_self, Pu.eta, g]
  · simp [not_lt_le]
theorem sK_umay {sp : Spec} {key : Nat} (hF : sp.F key = sF_umay) (hP : sp.pre key = fun _ => True := by rfl) : SmOk Try.prog sp (sM_umay key) :=
  fun_ok (s := sM_umay key) hF hP (by kernel_rfl) tysok_XbA (sm0) Try.func59 fn0 sR_umay (.inl rfl) (fun x0 gx0 x1 gx1 hp ρ g => sX_umay ⟨x0, x1⟩ ⟨gx0, gx1⟩ ρ g)
def sM_imay (key : Nat) : Sm := ⟨60, key, [.agg kPi], [.one .bool], false⟩
def sV_imay (a : Pi) : List Dt := [.z (b2i (decide (a.lo ≤ a.hi)))]
def sF_imay : List Dt → List Dt
  | [.z x0, .z x1] => sV_imay ⟨x0, x1⟩
  | _ => []
def sT_imay : Tr :=
(.leaf (.consb (.not (.lt (.var 1) (.var 0))) .nil))
def sP_imay : Spec := ⟨fun k => match k with | _ => fun _ => [], fun k => match k with | _ => fun _ => True⟩
set_option maxRecDepth 100000 in
theorem sR_imay : treeIs tys_XbA [] [] [] [] 200 Try.f60 [.agg kPi] [.one .bool] false [.int .i64, .int .i64] sT_imay := ⟨by kernel_rfl, by kernel_rfl, by kernel_rfl⟩
set_option maxRecDepth 100000 in
set_option maxHeartbeats 8000000 in
theorem sX_imay (a : Pi) (ha : Pi.ok a) (ρ : Env) (g : varsD ρ 0 [.int .i64, .int .i64] = [.z a.lo, .z a.hi]) : sT_imay.asks sP_imay (fun ρ e => e.D ρ = sF_imay [.z a.lo, .z a.hi]) ρ fun _ _ => False := by
  simp only [varsD, varD, List.cons.injEq, Dt.z.injEq, Dt.l.injEq, b2i_eq_iff, Nat.reduceAdd, and_true] at g
  simp only [sT_imay, sP_imay, sF_imay, sV_imay, Tr.asks, upd_same, okDs, okD, eqs, E.I, E.B, E.L, E.R, E.D, E.vs, dI, dB, dL, varD, varsD, List.getElem?_cons_zero, List.getElem?_cons_succ, List.cons_append, List.nil_append, Nat.zero_add, Nat.add_zero, Nat.reduceAdd, and_true, true_and, b2i_one, -eq_self, Pi.eta, g]
  · simp [not_lt_le]
theorem sK_imay {sp : Spec} {key : Nat} (hF : sp.F key = sF_imay) (hP : sp.pre key = fun _ => True := by rfl) : SmOk Try.prog sp (sM_imay key) :=
  fun_ok (s := sM_imay key) hF hP (by kernel_rfl) tysok_XbA (sm0) Try.func60 fn0 sR_imay (.inl rfl) (fun x0 gx0 x1 gx1 hp ρ g => sX_imay ⟨x0, x1⟩ ⟨gx0, gx1⟩ ρ g)
def sM_uhas (key : Nat) : Sm := ⟨57, key, [.agg kPu, .one (.int .u64)], [.one .bool], false⟩
def sV_uhas (a : Pu) (v : Int) : List Dt := [.z (b2i ((decide (a.lo ≤ v) && decide (v ≤ a.hi))))]
def sF_uhas : List Dt → List Dt
  | [.z x0, .z x1, .z x2] => sV_uhas ⟨x0, x1⟩ x2
  | _ => []
def sT_uhas : Tr :=
(.br (.lt (.var 2) (.var 0))
(.leaf (.consb (.tt false) .nil))
(.leaf (.consb (.not (.lt (.var 1) (.var 2))) .nil)))
def sP_uhas : Spec := ⟨fun k => match k with | _ => fun _ => [], fun k => match k with | _ => fun _ => True⟩
set_option maxRecDepth 100000 in
theorem sR_uhas : treeIs tys_XbA [] [] [] [] 200 Try.f57 [.agg kPu, .one (.int .u64)] [.one .bool] false [.int .u64, .int .u64, .int .u64] sT_uhas := ⟨by kernel_rfl, by kernel_rfl, by kernel_rfl⟩
set_option maxRecDepth 100000 in
set_option maxHeartbeats 8000000 in
theorem sX_uhas (a : Pu) (ha : Pu.ok a) (v : Int) (hv : inK .u64 v = true) (ρ : Env) (g : varsD ρ 0 [.int .u64, .int .u64, .int .u64] = [.z a.lo, .z a.hi, .z v]) : sT_uhas.asks sP_uhas (fun ρ e => e.D ρ = sF_uhas [.z a.lo, .z a.hi, .z v]) ρ fun _ _ => False := by
  simp only [varsD, varD, List.cons.injEq, Dt.z.injEq, Dt.l.injEq, b2i_eq_iff, Nat.reduceAdd, and_true] at g
  simp only [sT_uhas, sP_uhas, sF_uhas, sV_uhas, Tr.asks, upd_same, okDs, okD, eqs, E.I, E.B, E.L, E.R, E.D, E.vs, dI, dB, dL, varD, varsD, List.getElem?_cons_zero, List.getElem?_cons_succ, List.cons_append, List.nil_append, Nat.zero_add, Nat.add_zero, Nat.reduceAdd, and_true, true_and, b2i_one, -eq_self, Pu.eta, g]
  refine ⟨fun c0 => ?_, fun c0 => ?_⟩
  · simp_all [not_lt_le]
  · simp_all [not_lt_le]
theorem sK_uhas {sp : Spec} {key : Nat} (hF : sp.F key = sF_uhas) (hP : sp.pre key = fun _ => True := by rfl) : SmOk Try.prog sp (sM_uhas key) :=
  fun_ok (s := sM_uhas key) hF hP (by kernel_rfl) tysok_XbA (sm0) Try.func57 fn0 sR_uhas (.inl rfl) (fun x0 gx0 x1 gx1 x2 gx2 hp ρ g => sX_uhas ⟨x0, x1⟩ ⟨gx0, gx1⟩ x2 gx2 ρ g)
def sM_ihas (key : Nat) : Sm := ⟨58, key, [.agg kPi, .one (.int .i64)], [.one .bool], false⟩
def sV_ihas (a : Pi) (v : Int) : List Dt := [.z (b2i ((decide (a.lo ≤ v) && decide (v ≤ a.hi))))]
def sF_ihas : List Dt → List Dt
  | [.z x0, .z x1, .z x2] => sV_ihas ⟨x0, x1⟩ x2
  | _ => []
def sT_ihas : Tr :=
(.br (.lt (.var 2) (.var 0))
(.leaf (.consb (.tt false) .nil))
(.leaf (.consb (.not (.lt (.var 1) (.var 2))) .nil)))
def sP_ihas : Spec := ⟨fun k => match k with | _ => fun _ => [], fun k => match k with | _ => fun _ => True⟩
set_option maxRecDepth 100000 in
theorem sR_ihas : treeIs tys_XbA [] [] [] [] 200 Try.f58 [.agg kPi, .one (.int .i64)] [.one .bool] false [.int .i64, .int .i64, .int .i64] sT_ihas := ⟨by kernel_rfl, by kernel_rfl, by kernel_rfl⟩
set_option maxRecDepth 100000 in
set_option maxHeartbeats 8000000 in
theorem sX_ihas (a : Pi) (ha : Pi.ok a) (v : Int) (hv : inK .i64 v = true) (ρ : Env) (g : varsD ρ 0 [.int .i64, .int .i64, .int .i64] = [.z a.lo, .z a.hi, .z v]) : sT_ihas.asks sP_ihas (fun ρ e => e.D ρ = sF_ihas [.z a.lo, .z a.hi, .z v]) ρ fun _ _ => False := by
  simp only [varsD, varD, List.cons.injEq, Dt.z.injEq, Dt.l.injEq, b2i_eq_iff, Nat.reduceAdd, and_true] at g
  simp only [sT_ihas, sP_ihas, sF_ihas, sV_ihas, Tr.asks, upd_same, okDs, okD, eqs, E.I, E.B, E.L, E.R, E.D, E.vs, dI, dB, dL, varD, varsD, List.getElem?_cons_zero, List.getElem?_cons_succ, List.cons_append, List.nil_append, Nat.zero_add, Nat.add_zero, Nat.reduceAdd, and_true, true_and, b2i_one, -eq_self, Pi.eta, g]
  refine ⟨fun c0 => ?_, fun c0 => ?_⟩
  · simp_all [not_lt_le]
  · simp_all [not_lt_le]
theorem sK_ihas {sp : Spec} {key : Nat} (hF : sp.F key = sF_ihas) (hP : sp.pre key = fun _ => True := by rfl) : SmOk Try.prog sp (sM_ihas key) :=
  fun_ok (s := sM_ihas key) hF hP (by kernel_rfl) tysok_XbA (sm0) Try.func58 fn0 sR_ihas (.inl rfl) (fun x0 gx0 x1 gx1 x2 gx2 hp ρ g => sX_ihas ⟨x0, x1⟩ ⟨gx0, gx1⟩ x2 gx2 ρ g)
def sM_umeet (key : Nat) : Sm := ⟨66, key, [.agg kPu, .agg kPu], [.agg kPu], false⟩
def sV_umeet (a : Pu) (b : Pu) : List Dt := [.z (((⟨max a.lo b.lo, min a.hi b.hi⟩ : Pu)).lo), .z (((⟨max a.lo b.lo, min a.hi b.hi⟩ : Pu)).hi)]
def sF_umeet : List Dt → List Dt
  | [.z x0, .z x1, .z x2, .z x3] => sV_umeet ⟨x0, x1⟩ ⟨x2, x3⟩
  | _ => []
def sT_umeet : Tr :=
(.leaf (.cons (.mx (.var 0) (.var 2)) (.cons (.mn (.var 1) (.var 3)) .nil)))
def sP_umeet : Spec := ⟨fun k => match k with | _ => fun _ => [], fun k => match k with | _ => fun _ => True⟩
set_option maxRecDepth 100000 in
theorem sR_umeet : treeIs tys_XbA [] [] [] [] 200 Try.f66 [.agg kPu, .agg kPu] [.agg kPu] false [.int .u64, .int .u64, .int .u64, .int .u64] sT_umeet := ⟨by kernel_rfl, by kernel_rfl, by kernel_rfl⟩
set_option maxRecDepth 100000 in
set_option maxHeartbeats 8000000 in
theorem sX_umeet (a : Pu) (ha : Pu.ok a) (b : Pu) (hb : Pu.ok b) (ρ : Env) (g : varsD ρ 0 [.int .u64, .int .u64, .int .u64, .int .u64] = [.z a.lo, .z a.hi, .z b.lo, .z b.hi]) : sT_umeet.asks sP_umeet (fun ρ e => e.D ρ = sF_umeet [.z a.lo, .z a.hi, .z b.lo, .z b.hi]) ρ fun _ _ => False := by
  simp only [varsD, varD, List.cons.injEq, Dt.z.injEq, Dt.l.injEq, b2i_eq_iff, Nat.reduceAdd, and_true] at g
  simp only [sT_umeet, sP_umeet, sF_umeet, sV_umeet, Tr.asks, upd_same, okDs, okD, eqs, E.I, E.B, E.L, E.R, E.D, E.vs, dI, dB, dL, varD, varsD, List.getElem?_cons_zero, List.getElem?_cons_succ, List.cons_append, List.nil_append, Nat.zero_add, Nat.add_zero, Nat.reduceAdd, and_true, true_and, b2i_one, -eq_self, Pu.eta, g]
  · rfl
theorem sK_umeet {sp : Spec} {key : Nat} (hF : sp.F key = sF_umeet) (hP : sp.pre key = fun _ => True := by rfl) : SmOk Try.prog sp (sM_umeet key) :=
  fun_ok (s := sM_umeet key) hF hP (by kernel_rfl) tysok_XbA (sm0) Try.func66 fn0 sR_umeet (.inl rfl) (fun x0 gx0 x1 gx1 x2 gx2 x3 gx3 hp ρ g => sX_umeet ⟨x0, x1⟩ ⟨gx0, gx1⟩ ⟨x2, x3⟩ ⟨gx2, gx3⟩ ρ g)
def sM_ujoin (key : Nat) : Sm := ⟨51, key, [.agg kPu, .agg kPu], [.agg kPu], false⟩
def sV_ujoin (a : Pu) (b : Pu) : List Dt := [.z (((⟨min a.lo b.lo, max a.hi b.hi⟩ : Pu)).lo), .z (((⟨min a.lo b.lo, max a.hi b.hi⟩ : Pu)).hi)]
def sF_ujoin : List Dt → List Dt
  | [.z x0, .z x1, .z x2, .z x3] => sV_ujoin ⟨x0, x1⟩ ⟨x2, x3⟩
  | _ => []
def sT_ujoin : Tr :=
(.leaf (.cons (.mn (.var 0) (.var 2)) (.cons (.mx (.var 1) (.var 3)) .nil)))
def sP_ujoin : Spec := ⟨fun k => match k with | _ => fun _ => [], fun k => match k with | _ => fun _ => True⟩
set_option maxRecDepth 100000 in
theorem sR_ujoin : treeIs tys_XbA [] [] [] [] 200 Try.f51 [.agg kPu, .agg kPu] [.agg kPu] false [.int .u64, .int .u64, .int .u64, .int .u64] sT_ujoin := ⟨by kernel_rfl, by kernel_rfl, by kernel_rfl⟩
set_option maxRecDepth 100000 in
set_option maxHeartbeats 8000000 in
theorem sX_ujoin (a : Pu) (ha : Pu.ok a) (b : Pu) (hb : Pu.ok b) (ρ : Env) (g : varsD ρ 0 [.int .u64, .int .u64, .int .u64, .int .u64] = [.z a.lo, .z a.hi, .z b.lo, .z b.hi]) : sT_ujoin.asks sP_ujoin (fun ρ e => e.D ρ = sF_ujoin [.z a.lo, .z a.hi, .z b.lo, .z b.hi]) ρ fun _ _ => False := by
  simp only [varsD, varD, List.cons.injEq, Dt.z.injEq, Dt.l.injEq, b2i_eq_iff, Nat.reduceAdd, and_true] at g
  simp only [sT_ujoin, sP_ujoin, sF_ujoin, sV_ujoin, Tr.asks, upd_same, okDs, okD, eqs, E.I, E.B, E.L, E.R, E.D, E.vs, dI, dB, dL, varD, varsD, List.getElem?_cons_zero, List.getElem?_cons_succ, List.cons_append, List.nil_append, Nat.zero_add, Nat.add_zero, Nat.reduceAdd, and_true, true_and, b2i_one, -eq_self, Pu.eta, g]
  · rfl
theorem sK_ujoin {sp : Spec} {key : Nat} (hF : sp.F key = sF_ujoin) (hP : sp.pre key = fun _ => True := by rfl) : SmOk Try.prog sp (sM_ujoin key) :=
  fun_ok (s := sM_ujoin key) hF hP (by kernel_rfl) tysok_XbA (sm0) Try.func51 fn0 sR_ujoin (.inl rfl) (fun x0 gx0 x1 gx1 x2 gx2 x3 gx3 hp ρ g => sX_ujoin ⟨x0, x1⟩ ⟨gx0, gx1⟩ ⟨x2, x3⟩ ⟨gx2, gx3⟩ ρ g)
def sM_imeet (key : Nat) : Sm := ⟨67, key, [.agg kPi, .agg kPi], [.agg kPi], false⟩
def sV_imeet (a : Pi) (b : Pi) : List Dt := [.z (((⟨max a.lo b.lo, min a.hi b.hi⟩ : Pi)).lo), .z (((⟨max a.lo b.lo, min a.hi b.hi⟩ : Pi)).hi)]
def sF_imeet : List Dt → List Dt
  | [.z x0, .z x1, .z x2, .z x3] => sV_imeet ⟨x0, x1⟩ ⟨x2, x3⟩
  | _ => []
def sT_imeet : Tr :=
(.leaf (.cons (.mx (.var 0) (.var 2)) (.cons (.mn (.var 1) (.var 3)) .nil)))
def sP_imeet : Spec := ⟨fun k => match k with | _ => fun _ => [], fun k => match k with | _ => fun _ => True⟩
set_option maxRecDepth 100000 in
theorem sR_imeet : treeIs tys_XbA [] [] [] [] 200 Try.f67 [.agg kPi, .agg kPi] [.agg kPi] false [.int .i64, .int .i64, .int .i64, .int .i64] sT_imeet := ⟨by kernel_rfl, by kernel_rfl, by kernel_rfl⟩
set_option maxRecDepth 100000 in
set_option maxHeartbeats 8000000 in
theorem sX_imeet (a : Pi) (ha : Pi.ok a) (b : Pi) (hb : Pi.ok b) (ρ : Env) (g : varsD ρ 0 [.int .i64, .int .i64, .int .i64, .int .i64] = [.z a.lo, .z a.hi, .z b.lo, .z b.hi]) : sT_imeet.asks sP_imeet (fun ρ e => e.D ρ = sF_imeet [.z a.lo, .z a.hi, .z b.lo, .z b.hi]) ρ fun _ _ => False := by
  simp only [varsD, varD, List.cons.injEq, Dt.z.injEq, Dt.l.injEq, b2i_eq_iff, Nat.reduceAdd, and_true] at g
  simp only [sT_imeet, sP_imeet, sF_imeet, sV_imeet, Tr.asks, upd_same, okDs, okD, eqs, E.I, E.B, E.L, E.R, E.D, E.vs, dI, dB, dL, varD, varsD, List.getElem?_cons_zero, List.getElem?_cons_succ, List.cons_append, List.nil_append, Nat.zero_add, Nat.add_zero, Nat.reduceAdd, and_true, true_and, b2i_one, -eq_self, Pi.eta, g]
  · rfl
theorem sK_imeet {sp : Spec} {key : Nat} (hF : sp.F key = sF_imeet) (hP : sp.pre key = fun _ => True := by rfl) : SmOk Try.prog sp (sM_imeet key) :=
  fun_ok (s := sM_imeet key) hF hP (by kernel_rfl) tysok_XbA (sm0) Try.func67 fn0 sR_imeet (.inl rfl) (fun x0 gx0 x1 gx1 x2 gx2 x3 gx3 hp ρ g => sX_imeet ⟨x0, x1⟩ ⟨gx0, gx1⟩ ⟨x2, x3⟩ ⟨gx2, gx3⟩ ρ g)
def sM_ijoin (key : Nat) : Sm := ⟨53, key, [.agg kPi, .agg kPi], [.agg kPi], false⟩
def sV_ijoin (a : Pi) (b : Pi) : List Dt := [.z (((⟨min a.lo b.lo, max a.hi b.hi⟩ : Pi)).lo), .z (((⟨min a.lo b.lo, max a.hi b.hi⟩ : Pi)).hi)]
def sF_ijoin : List Dt → List Dt
  | [.z x0, .z x1, .z x2, .z x3] => sV_ijoin ⟨x0, x1⟩ ⟨x2, x3⟩
  | _ => []
def sT_ijoin : Tr :=
(.leaf (.cons (.mn (.var 0) (.var 2)) (.cons (.mx (.var 1) (.var 3)) .nil)))
def sP_ijoin : Spec := ⟨fun k => match k with | _ => fun _ => [], fun k => match k with | _ => fun _ => True⟩
set_option maxRecDepth 100000 in
theorem sR_ijoin : treeIs tys_XbA [] [] [] [] 200 Try.f53 [.agg kPi, .agg kPi] [.agg kPi] false [.int .i64, .int .i64, .int .i64, .int .i64] sT_ijoin := ⟨by kernel_rfl, by kernel_rfl, by kernel_rfl⟩
set_option maxRecDepth 100000 in
set_option maxHeartbeats 8000000 in
theorem sX_ijoin (a : Pi) (ha : Pi.ok a) (b : Pi) (hb : Pi.ok b) (ρ : Env) (g : varsD ρ 0 [.int .i64, .int .i64, .int .i64, .int .i64] = [.z a.lo, .z a.hi, .z b.lo, .z b.hi]) : sT_ijoin.asks sP_ijoin (fun ρ e => e.D ρ = sF_ijoin [.z a.lo, .z a.hi, .z b.lo, .z b.hi]) ρ fun _ _ => False := by
  simp only [varsD, varD, List.cons.injEq, Dt.z.injEq, Dt.l.injEq, b2i_eq_iff, Nat.reduceAdd, and_true] at g
  simp only [sT_ijoin, sP_ijoin, sF_ijoin, sV_ijoin, Tr.asks, upd_same, okDs, okD, eqs, E.I, E.B, E.L, E.R, E.D, E.vs, dI, dB, dL, varD, varsD, List.getElem?_cons_zero, List.getElem?_cons_succ, List.cons_append, List.nil_append, Nat.zero_add, Nat.add_zero, Nat.reduceAdd, and_true, true_and, b2i_one, -eq_self, Pi.eta, g]
  · rfl
theorem sK_ijoin {sp : Spec} {key : Nat} (hF : sp.F key = sF_ijoin) (hP : sp.pre key = fun _ => True := by rfl) : SmOk Try.prog sp (sM_ijoin key) :=
  fun_ok (s := sM_ijoin key) hF hP (by kernel_rfl) tysok_XbA (sm0) Try.func53 fn0 sR_ijoin (.inl rfl) (fun x0 gx0 x1 gx1 x2 gx2 x3 gx3 hp ρ g => sX_ijoin ⟨x0, x1⟩ ⟨gx0, gx1⟩ ⟨x2, x3⟩ ⟨gx2, gx3⟩ ρ g)
def sM_of (key : Nat) : Sm := ⟨49, key, [.agg kPu, .agg kPi], [.agg kRg], false⟩
def sV_of (a : Pu) (b : Pi) : List Dt := [.z (((⟨a.lo, a.hi, b.lo, b.hi⟩ : Rg)).ul), .z (((⟨a.lo, a.hi, b.lo, b.hi⟩ : Rg)).uh), .z (((⟨a.lo, a.hi, b.lo, b.hi⟩ : Rg)).sl), .z (((⟨a.lo, a.hi, b.lo, b.hi⟩ : Rg)).sh)]
def sF_of : List Dt → List Dt
  | [.z x0, .z x1, .z x2, .z x3] => sV_of ⟨x0, x1⟩ ⟨x2, x3⟩
  | _ => []
def sT_of : Tr :=
(.leaf (.vs 0 4 .nil))
def sP_of : Spec := ⟨fun k => match k with | _ => fun _ => [], fun k => match k with | _ => fun _ => True⟩
set_option maxRecDepth 100000 in
theorem sR_of : treeIs tys_XbA [] [] [] [] 200 Try.f49 [.agg kPu, .agg kPi] [.agg kRg] false [.int .u64, .int .u64, .int .i64, .int .i64] sT_of := ⟨by kernel_rfl, by kernel_rfl, by kernel_rfl⟩
set_option maxRecDepth 100000 in
set_option maxHeartbeats 8000000 in
theorem sX_of (a : Pu) (ha : Pu.ok a) (b : Pi) (hb : Pi.ok b) (ρ : Env) (g : varsD ρ 0 [.int .u64, .int .u64, .int .i64, .int .i64] = [.z a.lo, .z a.hi, .z b.lo, .z b.hi]) : sT_of.asks sP_of (fun ρ e => e.D ρ = sF_of [.z a.lo, .z a.hi, .z b.lo, .z b.hi]) ρ fun _ _ => False := by
  simp only [varsD, varD, List.cons.injEq, Dt.z.injEq, Dt.l.injEq, b2i_eq_iff, Nat.reduceAdd, and_true] at g
  simp only [sT_of, sP_of, sF_of, sV_of, Tr.asks, upd_same, okDs, okD, eqs, E.I, E.B, E.L, E.R, E.D, E.vs, dI, dB, dL, varD, varsD, List.getElem?_cons_zero, List.getElem?_cons_succ, List.cons_append, List.nil_append, Nat.zero_add, Nat.add_zero, Nat.reduceAdd, and_true, true_and, b2i_one, -eq_self, Pi.eta, Pu.eta, g]
  · rfl
theorem sK_of {sp : Spec} {key : Nat} (hF : sp.F key = sF_of) (hP : sp.pre key = fun _ => True := by rfl) : SmOk Try.prog sp (sM_of key) :=
  fun_ok (s := sM_of key) hF hP (by kernel_rfl) tysok_XbA (sm0) Try.func49 fn0 sR_of (.inl rfl) (fun x0 gx0 x1 gx1 x2 gx2 x3 gx3 hp ρ g => sX_of ⟨x0, x1⟩ ⟨gx0, gx1⟩ ⟨x2, x3⟩ ⟨gx2, gx3⟩ ρ g)
def sM_may (key : Nat) : Sm := ⟨43, key, [.agg kRg], [.one .bool], false⟩
def sV_may (a : Rg) : List Dt := [.z (b2i (bmay a))]
def sF_may : List Dt → List Dt
  | [.z x0, .z x1, .z x2, .z x3] => sV_may ⟨x0, x1, x2, x3⟩
  | _ => []
def sT_may : Tr :=
(.call 0 (kPu) (.vs 0 4 .nil) 4
(.call 2 ([.bool]) (.vs 4 2 .nil) 6
(.br (.bvar 6)
(.call 1 (kPi) (.vs 0 4 .nil) 7
(.call 3 ([.bool]) (.vs 7 2 .nil) 9
(.leaf (.consb (.bvar 9) .nil))))
(.leaf (.consb (.tt false) .nil)))))
def sP_may : Spec := ⟨fun k => match k with | 0 => sF_uns | 1 => sF_sig | 2 => sF_umay | 3 => sF_imay | _ => fun _ => [], fun k => match k with | _ => fun _ => True⟩
set_option maxRecDepth 100000 in
theorem sR_may : treeIs tys_XbA [sM_uns 0, sM_sig 1, sM_umay 2, sM_imay 3] [] [] [] 200 Try.f43 [.agg kRg] [.one .bool] false [.int .u64, .int .u64, .int .i64, .int .i64] sT_may := ⟨by kernel_rfl, by kernel_rfl, by kernel_rfl⟩
set_option maxRecDepth 100000 in
set_option maxHeartbeats 8000000 in
theorem sX_may (a : Rg) (ha : Rg.ok a) (ρ : Env) (g : varsD ρ 0 [.int .u64, .int .u64, .int .i64, .int .i64] = [.z a.ul, .z a.uh, .z a.sl, .z a.sh]) : sT_may.asks sP_may (fun ρ e => e.D ρ = sF_may [.z a.ul, .z a.uh, .z a.sl, .z a.sh]) ρ fun _ _ => False := by
  simp only [varsD, varD, List.cons.injEq, Dt.z.injEq, Dt.l.injEq, b2i_eq_iff, Nat.reduceAdd, and_true] at g
  simp only [sT_may, sP_may, kPi, kPu, sF_uns, sF_sig, sF_umay, sF_imay, sV_uns, sV_sig, sV_umay, sV_imay, sF_may, sV_may, Tr.asks, upd_same, okDs, okD, eqs, E.I, E.B, E.L, E.R, E.D, E.vs, dI, dB, dL, varD, varsD, List.getElem?_cons_zero, List.getElem?_cons_succ, List.cons_append, List.nil_append, Nat.zero_add, Nat.add_zero, Nat.reduceAdd, and_true, true_and, b2i_one, -eq_self, Pi.eta, Pu.eta, Rg.eta, g]
  intro e; (try simp only [e, Pi.eta, Pu.eta, Rg.eta, -eq_self]); clear e
  intro e; (try simp only [e, Pi.eta, Pu.eta, Rg.eta, -eq_self]); clear e
  refine ⟨fun c0 => ?_, fun c0 => ?_⟩
  intro e; (try simp only [e, Pi.eta, Pu.eta, Rg.eta, -eq_self]); clear e
  intro e; (try simp only [e, Pi.eta, Pu.eta, Rg.eta, -eq_self]); clear e
  · (unfold bmay; simp_all; try (intros; omega))
  · (unfold bmay; simp_all; try (intros; omega))
theorem sK_may {sp : Spec} {key : Nat} (hF : sp.F key = sF_may) (hP : sp.pre key = fun _ => True := by rfl) : SmOk Try.prog sp (sM_may key) :=
  fun_ok (s := sM_may key) hF hP (by kernel_rfl) tysok_XbA (smc (sK_uns rfl) (smc (sK_sig rfl) (smc (sK_umay rfl) (smc (sK_imay rfl) sm0)))) Try.func43 fn0 sR_may (.inl rfl) (fun x0 gx0 x1 gx1 x2 gx2 x3 gx3 hp ρ g => sX_may ⟨x0, x1, x2, x3⟩ ⟨gx0, gx1, gx2, gx3⟩ ρ g)
def sM_all (key : Nat) : Sm := ⟨36, key, [], [.agg kRg], false⟩
def sF_all : List Dt → List Dt
  | [] => [.z ball.ul, .z ball.uh, .z ball.sl, .z ball.sh]
  | _ => []
def sT_all : Tr :=
(.call 0 (kRg) (.cons (.lit 0) (.cons (.lit 18446744073709551615) (.cons (.lit (-9223372036854775808)) (.cons (.lit 9223372036854775807) .nil)))) 0
(.leaf (.vs 0 4 .nil)))
def sP_all : Spec := ⟨fun k => match k with | 0 => sF_of | _ => fun _ => [], fun k => match k with | _ => fun _ => True⟩
set_option maxRecDepth 100000 in
theorem sR_all : treeIs tys_XbA [sM_of 0] [] [] [] 200 Try.f36 [] [.agg kRg] false [] sT_all := ⟨by kernel_rfl, by kernel_rfl, by kernel_rfl⟩
set_option maxRecDepth 100000 in
set_option maxHeartbeats 8000000 in
theorem sX_all  (ρ : Env) (g : varsD ρ 0 [] = []) : sT_all.asks sP_all (fun ρ e => e.D ρ = sF_all []) ρ fun _ _ => False := by
  simp only [sT_all, sP_all, kRg, sF_of, sV_of, sF_all, Tr.asks, upd_same, okDs, okD, eqs, E.I, E.B, E.L, E.R, E.D, E.vs, dI, dB, dL, varD, varsD, List.getElem?_cons_zero, List.getElem?_cons_succ, List.cons_append, List.nil_append, Nat.zero_add, Nat.add_zero, Nat.reduceAdd, and_true, true_and, b2i_one, -eq_self, Pi.eta, Pu.eta, Rg.eta]
  intro e; (try simp only [e, Pi.eta, Pu.eta, Rg.eta, -eq_self]); clear e
  · rfl
theorem sK_all {sp : Spec} {key : Nat} (hF : sp.F key = sF_all) (hP : sp.pre key = fun _ => True := by rfl) : SmOk Try.prog sp (sM_all key) :=
  fun_ok (s := sM_all key) hF hP (by kernel_rfl) tysok_XbA (smc (sK_of rfl) sm0) Try.func36 fn0 sR_all (.inl rfl) (fun  hp ρ g => sX_all ρ g)
def sM_one (key : Nat) : Sm := ⟨45, key, [.one (.int .u64)], [.agg kRg], false⟩
def sV_one (v : Int) : List Dt := [.z ((bone v).ul), .z ((bone v).uh), .z ((bone v).sl), .z ((bone v).sh)]
def sF_one : List Dt → List Dt
  | [.z x0] => sV_one x0
  | _ => []
def sT_one : Tr :=
(.call 0 (kRg) (.cons (.var 0) (.cons (.var 0) (.cons (.conv .i64 (.var 0)) (.cons (.conv .i64 (.var 0)) .nil)))) 1
(.leaf (.vs 1 4 .nil)))
def sP_one : Spec := ⟨fun k => match k with | 0 => sF_of | _ => fun _ => [], fun k => match k with | _ => fun _ => True⟩
set_option maxRecDepth 100000 in
theorem sR_one : treeIs tys_XbA [sM_of 0] [] [] [] 200 Try.f45 [.one (.int .u64)] [.agg kRg] false [.int .u64] sT_one := ⟨by kernel_rfl, by kernel_rfl, by kernel_rfl⟩
set_option maxRecDepth 100000 in
set_option maxHeartbeats 8000000 in
theorem sX_one (v : Int) (hv : inK .u64 v = true) (ρ : Env) (g : varsD ρ 0 [.int .u64] = [.z v]) : sT_one.asks sP_one (fun ρ e => e.D ρ = sF_one [.z v]) ρ fun _ _ => False := by
  simp only [varsD, varD, List.cons.injEq, Dt.z.injEq, Dt.l.injEq, b2i_eq_iff, Nat.reduceAdd, and_true] at g
  simp only [sT_one, sP_one, kRg, sF_of, sV_of, sF_one, sV_one, Tr.asks, upd_same, okDs, okD, eqs, E.I, E.B, E.L, E.R, E.D, E.vs, dI, dB, dL, varD, varsD, List.getElem?_cons_zero, List.getElem?_cons_succ, List.cons_append, List.nil_append, Nat.zero_add, Nat.add_zero, Nat.reduceAdd, and_true, true_and, b2i_one, -eq_self, Pi.eta, Pu.eta, Rg.eta, g]
  intro e; (try simp only [e, Pi.eta, Pu.eta, Rg.eta, -eq_self]); clear e
  · simp [bone, s64_wrap]
theorem sK_one {sp : Spec} {key : Nat} (hF : sp.F key = sF_one) (hP : sp.pre key = fun _ => True := by rfl) : SmOk Try.prog sp (sM_one key) :=
  fun_ok (s := sM_one key) hF hP (by kernel_rfl) tysok_XbA (smc (sK_of rfl) sm0) Try.func45 fn0 sR_one (.inl rfl) (fun x0 gx0 hp ρ g => sX_one x0 gx0 ρ g)
def sM_has (key : Nat) : Sm := ⟨41, key, [.agg kRg, .one (.int .u64)], [.one .bool], false⟩
def sV_has (a : Rg) (v : Int) : List Dt := [.z (b2i (bhas a v))]
def sF_has : List Dt → List Dt
  | [.z x0, .z x1, .z x2, .z x3, .z x4] => sV_has ⟨x0, x1, x2, x3⟩ x4
  | _ => []
def sT_has : Tr :=
(.call 0 ([.bool]) (.vs 0 4 .nil) 5
(.br (.bvar 5)
(.call 1 (kPu) (.vs 0 4 .nil) 6
(.call 3 ([.bool]) (.vs 6 2 (.cons (.var 4) .nil)) 8
(.br (.bvar 8)
(.call 2 (kPi) (.vs 0 4 .nil) 9
(.call 4 ([.bool]) (.vs 9 2 (.cons (.conv .i64 (.var 4)) .nil)) 11
(.leaf (.consb (.bvar 11) .nil))))
(.leaf (.consb (.tt false) .nil)))))
(.leaf (.consb (.tt false) .nil))))
def sP_has : Spec := ⟨fun k => match k with | 0 => sF_may | 1 => sF_uns | 2 => sF_sig | 3 => sF_uhas | 4 => sF_ihas | _ => fun _ => [], fun k => match k with | _ => fun _ => True⟩
set_option maxRecDepth 100000 in
theorem sR_has : treeIs tys_XbA [sM_may 0, sM_uns 1, sM_sig 2, sM_uhas 3, sM_ihas 4] [] [] [] 200 Try.f41 [.agg kRg, .one (.int .u64)] [.one .bool] false [.int .u64, .int .u64, .int .i64, .int .i64, .int .u64] sT_has := ⟨by kernel_rfl, by kernel_rfl, by kernel_rfl⟩
set_option maxRecDepth 100000 in
set_option maxHeartbeats 8000000 in
theorem sX_has (a : Rg) (ha : Rg.ok a) (v : Int) (hv : inK .u64 v = true) (ρ : Env) (g : varsD ρ 0 [.int .u64, .int .u64, .int .i64, .int .i64, .int .u64] = [.z a.ul, .z a.uh, .z a.sl, .z a.sh, .z v]) : sT_has.asks sP_has (fun ρ e => e.D ρ = sF_has [.z a.ul, .z a.uh, .z a.sl, .z a.sh, .z v]) ρ fun _ _ => False := by
  simp only [varsD, varD, List.cons.injEq, Dt.z.injEq, Dt.l.injEq, b2i_eq_iff, Nat.reduceAdd, and_true] at g
  simp only [sT_has, sP_has, kPi, kPu, sF_may, sF_uns, sF_sig, sF_uhas, sF_ihas, sV_may, sV_uns, sV_sig, sV_uhas, sV_ihas, sF_has, sV_has, Tr.asks, upd_same, okDs, okD, eqs, E.I, E.B, E.L, E.R, E.D, E.vs, dI, dB, dL, varD, varsD, List.getElem?_cons_zero, List.getElem?_cons_succ, List.cons_append, List.nil_append, Nat.zero_add, Nat.add_zero, Nat.reduceAdd, and_true, true_and, b2i_one, -eq_self, Pi.eta, Pu.eta, Rg.eta, g]
  intro e; (try simp only [e, Pi.eta, Pu.eta, Rg.eta, -eq_self]); clear e
  refine ⟨fun c0 => ?_, fun c0 => ?_⟩
  intro e; (try simp only [e, Pi.eta, Pu.eta, Rg.eta, -eq_self]); clear e
  intro e; (try simp only [e, Pi.eta, Pu.eta, Rg.eta, -eq_self]); clear e
  refine ⟨fun c1 => ?_, fun c1 => ?_⟩
  intro e; (try simp only [e, Pi.eta, Pu.eta, Rg.eta, -eq_self]); clear e
  intro e; (try simp only [e, Pi.eta, Pu.eta, Rg.eta, -eq_self]); clear e
  · (unfold bhas; simp_all [s64_wrap]; try (intros; omega))
  · (unfold bhas; simp_all [s64_wrap]; try (intros; omega))
  · (unfold bhas; simp_all [s64_wrap]; try (intros; omega))
theorem sK_has {sp : Spec} {key : Nat} (hF : sp.F key = sF_has) (hP : sp.pre key = fun _ => True := by rfl) : SmOk Try.prog sp (sM_has key) :=
  fun_ok (s := sM_has key) hF hP (by kernel_rfl) tysok_XbA (smc (sK_may rfl) (smc (sK_uns rfl) (smc (sK_sig rfl) (smc (sK_uhas rfl) (smc (sK_ihas rfl) sm0))))) Try.func41 fn0 sR_has (.inl rfl) (fun x0 gx0 x1 gx1 x2 gx2 x3 gx3 x4 gx4 hp ρ g => sX_has ⟨x0, x1, x2, x3⟩ ⟨gx0, gx1, gx2, gx3⟩ x4 gx4 ρ g)
def sM_join (key : Nat) : Sm := ⟨33, key, [.agg kRg, .agg kRg], [.agg kRg], false⟩
def sV_join (a : Rg) (b : Rg) : List Dt := [.z ((bjoin a b).ul), .z ((bjoin a b).uh), .z ((bjoin a b).sl), .z ((bjoin a b).sh)]
def sF_join : List Dt → List Dt
  | [.z x0, .z x1, .z x2, .z x3, .z x4, .z x5, .z x6, .z x7] => sV_join ⟨x0, x1, x2, x3⟩ ⟨x4, x5, x6, x7⟩
  | _ => []
def sT_join : Tr :=
(.call 0 ([.bool]) (.vs 0 4 .nil) 8
(.br (.bvar 8)
(.call 0 ([.bool]) (.vs 4 4 .nil) 9
(.br (.bvar 9)
(.call 2 (kPu) (.vs 0 4 .nil) 10
(.call 2 (kPu) (.vs 4 4 .nil) 12
(.call 4 (kPu) (.vs 10 4 .nil) 14
(.call 3 (kPi) (.vs 0 4 .nil) 16
(.call 3 (kPi) (.vs 4 4 .nil) 18
(.call 5 (kPi) (.vs 16 4 .nil) 20
(.call 6 (kRg) (.vs 14 2 (.vs 20 2 .nil)) 22
(.leaf (.vs 22 4 .nil)))))))))
(.call 1 (kRg) .nil 10
(.leaf (.vs 10 4 .nil)))))
(.call 1 (kRg) .nil 9
(.leaf (.vs 9 4 .nil)))))
def sP_join : Spec := ⟨fun k => match k with | 0 => sF_may | 1 => sF_all | 2 => sF_uns | 3 => sF_sig | 4 => sF_ujoin | 5 => sF_ijoin | 6 => sF_of | _ => fun _ => [], fun k => match k with | _ => fun _ => True⟩
set_option maxRecDepth 100000 in
theorem sR_join : treeIs tys_XbA [sM_may 0, sM_all 1, sM_uns 2, sM_sig 3, sM_ujoin 4, sM_ijoin 5, sM_of 6] [] [] [] 200 Try.f33 [.agg kRg, .agg kRg] [.agg kRg] false [.int .u64, .int .u64, .int .i64, .int .i64, .int .u64, .int .u64, .int .i64, .int .i64] sT_join := ⟨by kernel_rfl, by kernel_rfl, by kernel_rfl⟩
set_option maxRecDepth 100000 in
set_option maxHeartbeats 8000000 in
theorem sX_join (a : Rg) (ha : Rg.ok a) (b : Rg) (hb : Rg.ok b) (ρ : Env) (g : varsD ρ 0 [.int .u64, .int .u64, .int .i64, .int .i64, .int .u64, .int .u64, .int .i64, .int .i64] = [.z a.ul, .z a.uh, .z a.sl, .z a.sh, .z b.ul, .z b.uh, .z b.sl, .z b.sh]) : sT_join.asks sP_join (fun ρ e => e.D ρ = sF_join [.z a.ul, .z a.uh, .z a.sl, .z a.sh, .z b.ul, .z b.uh, .z b.sl, .z b.sh]) ρ fun _ _ => False := by
  simp only [varsD, varD, List.cons.injEq, Dt.z.injEq, Dt.l.injEq, b2i_eq_iff, Nat.reduceAdd, and_true] at g
  simp only [sT_join, sP_join, kPi, kPu, kRg, sF_may, sF_all, sF_uns, sF_sig, sF_ujoin, sF_ijoin, sF_of, sV_may, sV_uns, sV_sig, sV_ujoin, sV_ijoin, sV_of, sF_join, sV_join, Tr.asks, upd_same, okDs, okD, eqs, E.I, E.B, E.L, E.R, E.D, E.vs, dI, dB, dL, varD, varsD, List.getElem?_cons_zero, List.getElem?_cons_succ, List.cons_append, List.nil_append, Nat.zero_add, Nat.add_zero, Nat.reduceAdd, and_true, true_and, b2i_one, -eq_self, Pi.eta, Pu.eta, Rg.eta, g]
  intro e; (try simp only [e, Pi.eta, Pu.eta, Rg.eta, -eq_self]); clear e
  refine ⟨fun c0 => ?_, fun c0 => ?_⟩
  intro e; (try simp only [e, Pi.eta, Pu.eta, Rg.eta, -eq_self]); clear e
  refine ⟨fun c1 => ?_, fun c1 => ?_⟩
  intro e; (try simp only [e, Pi.eta, Pu.eta, Rg.eta, -eq_self]); clear e
  intro e; (try simp only [e, Pi.eta, Pu.eta, Rg.eta, -eq_self]); clear e
  intro e; (try simp only [e, Pi.eta, Pu.eta, Rg.eta, -eq_self]); clear e
  intro e; (try simp only [e, Pi.eta, Pu.eta, Rg.eta, -eq_self]); clear e
  intro e; (try simp only [e, Pi.eta, Pu.eta, Rg.eta, -eq_self]); clear e
  intro e; (try simp only [e, Pi.eta, Pu.eta, Rg.eta, -eq_self]); clear e
  intro e; (try simp only [e, Pi.eta, Pu.eta, Rg.eta, -eq_self]); clear e
  · (unfold bjoin; simp_all [bjoin0])
  intro e; (try simp only [e, Pi.eta, Pu.eta, Rg.eta, -eq_self]); clear e
  · (unfold bjoin; simp_all [bjoin0])
  intro e; (try simp only [e, Pi.eta, Pu.eta, Rg.eta, -eq_self]); clear e
  · (unfold bjoin; simp_all [bjoin0])
theorem sK_join {sp : Spec} {key : Nat} (hF : sp.F key = sF_join) (hP : sp.pre key = fun _ => True := by rfl) : SmOk Try.prog sp (sM_join key) :=
  fun_ok (s := sM_join key) hF hP (by kernel_rfl) tysok_XbA (smc (sK_may rfl) (smc (sK_all rfl) (smc (sK_uns rfl) (smc (sK_sig rfl) (smc (sK_ujoin rfl) (smc (sK_ijoin rfl) (smc (sK_of rfl) sm0))))))) Try.func33 fn0 sR_join (.inl rfl) (fun x0 gx0 x1 gx1 x2 gx2 x3 gx3 x4 gx4 x5 gx5 x6 gx6 x7 gx7 hp ρ g => sX_join ⟨x0, x1, x2, x3⟩ ⟨gx0, gx1, gx2, gx3⟩ ⟨x4, x5, x6, x7⟩ ⟨gx4, gx5, gx6, gx7⟩ ρ g)
end Go.Proofs.Ytgfghplnankgnaa

