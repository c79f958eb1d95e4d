import Derived.Test.YtghiofgomcihcaaLiA
import Derived.Test.YtghiofgomcihcaaProg
import Derived.Laws.Externs
set_option linter.unusedVariables false
set_option linter.unusedSimpArgs false
namespace Go.Proofs.Ytghiofgomcihcaa
open Go.RowKit Go.ChangeShapes Go.WideShapes
theorem Ins.eta (a : Ins) : (⟨a.k, a.op, a.w, a.sz, a.br, a.d, a.s, a.off, a.imm⟩ : Ins) = a := rfl
def Ins.ok (a : Ins) : Prop := inK .i8 a.k = true ∧ inK .i8 a.op = true ∧ inK .i8 a.w = true ∧ inK .i8 a.sz = true ∧ inK .i8 a.d = true ∧ inK .i8 a.s = true ∧ inK .i64 a.off = true ∧ inK .i64 a.imm = true
def kIns : List CK := [.int .i8, .int .i8, .int .i8, .int .i8, .bool, .int .i8, .int .i8, .int .i64, .int .i64]
theorem Prog.eta (a : Prog) : (⟨a.ctx, a.l⟩ : Prog) = a := rfl
def Prog.ok (a : Prog) : Prop := inK .i64 a.ctx = true ∧ RowsIn [some .i8, some .i8, some .i8, some .i8, none, some .i8, some .i8, some .i64, some .i64] a.l
def kProg : List CK := [.int .i64, .sl [some .i8, some .i8, some .i8, some .i8, none, some .i8, some .i8, some .i64, some .i64] 44]
def z_Ins : List C := [.int .i8 (.lit 0), .int .i8 (.lit 0), .int .i8 (.lit 0), .int .i8 (.lit 0), .bool (.tt false), .int .i8 (.lit 0), .int .i8 (.lit 0), .int .i64 (.lit 0), .int .i64 (.lit 0)]
theorem grd_Ins : Try.prog.eqGuardType Try.prog.depth 44 = false := by kernel_rfl
theorem cells44_Ins : Try.prog.cellsOf 44 = 9 := by kernel_rfl
theorem cells29_Ins : Try.prog.cellsOf 29 = 1 := by kernel_rfl
theorem cells4_Ins : Try.prog.cellsOf 4 = 1 := by kernel_rfl
theorem cells3_Ins : Try.prog.cellsOf 3 = 1 := by kernel_rfl
set_option maxRecDepth 100000 in
theorem kl_Ins (vs : List Value) (hv : kindsV vs z_Ins) : Try.prog.keyLits 6 44 vs = some (litsOf vs) := by
 obtain ⟨x0, _, rfl, g0, hv⟩ := kindsV_int hv
 obtain ⟨x1, _, rfl, g1, hv⟩ := kindsV_int hv
 obtain ⟨x2, _, rfl, g2, hv⟩ := kindsV_int hv
 obtain ⟨x3, _, rfl, g3, hv⟩ := kindsV_int hv
 obtain ⟨x4, _, rfl, hv⟩ := kindsV_bool hv
 obtain ⟨x5, _, rfl, g5, hv⟩ := kindsV_int hv
 obtain ⟨x6, _, rfl, g6, hv⟩ := kindsV_int hv
 obtain ⟨x7, _, rfl, g7, hv⟩ := kindsV_int hv
 obtain ⟨x8, _, rfl, g8, hv⟩ := kindsV_int hv
 obtain rfl := kindsV_nil hv
 simp [Program.keyLits, Try.underlying44, Try.underlying29, Try.underlying4, Try.underlying3, cells44_Ins, cells29_Ins, cells4_Ins, cells3_Ins, inK_wf, litsOf, g0, g1, g2, g3, g5, g6, g7, g8]
theorem fm_Ins (vs : List Value) (hv : kindsV vs z_Ins) : (Value.agg vs.toArray).formed Try.prog 44 = true := by
 obtain ⟨x0, _, rfl, g0, hv⟩ := kindsV_int hv
 obtain ⟨x1, _, rfl, g1, hv⟩ := kindsV_int hv
 obtain ⟨x2, _, rfl, g2, hv⟩ := kindsV_int hv
 obtain ⟨x3, _, rfl, g3, hv⟩ := kindsV_int hv
 obtain ⟨x4, _, rfl, hv⟩ := kindsV_bool hv
 obtain ⟨x5, _, rfl, g5, hv⟩ := kindsV_int hv
 obtain ⟨x6, _, rfl, g6, hv⟩ := kindsV_int hv
 obtain ⟨x7, _, rfl, g7, hv⟩ := kindsV_int hv
 obtain ⟨x8, _, rfl, g8, hv⟩ := kindsV_int hv
 obtain rfl := kindsV_nil hv
 kernel_rfl
theorem eq_Ins (vs us : List Value) (hv : kindsV vs z_Ins) (hu : kindsV us z_Ins) (w : World) : (Op.equal 44 (.agg vs.toArray) (.agg us.toArray)).run Try.prog w = .ok (eqVs vs us) w :=
 eq_of_keys (by kernel_rfl) fm_Ins 6 kl_Ins vs us hv hu w
def tys_LiB : List (Nat × TI) := [(3, ⟨false, 1, [.int .i64 (.lit 0)], [], none, some .i64, false, false, none, 8, false, none, false, 0⟩),
 (4, ⟨false, 1, [.bool (.tt false)], [], none, none, false, true, none, 1, false, none, false, 0⟩),
 (29, ⟨false, 1, [.int .i8 (.lit 0)], [], none, some .i8, false, false, none, 1, false, none, false, 0⟩),
 (44, ⟨true, 9, [.int .i8 (.lit 0), .int .i8 (.lit 0), .int .i8 (.lit 0), .int .i8 (.lit 0), .bool (.tt false), .int .i8 (.lit 0), .int .i8 (.lit 0), .int .i64 (.lit 0), .int .i64 (.lit 0)], [(0, 29), (1, 29), (2, 29), (3, 29), (4, 4), (5, 29), (6, 29), (7, 3), (8, 3)], none, none, true, false, none, 24, false, none, false, 0⟩)]
set_option maxRecDepth 100000 in
theorem tysck_LiB : (tys_LiB.all fun p => ckTI Try.prog p.1 p.2) = true := by kernel_rfl
theorem tyseq_LiB : (tys_LiB.all fun p => !p.2.eqok || ((Nat.beq p.1 44 && kindsC p.2.zero z_Ins))) = true := by kernel_rfl
theorem tyskn_LiB : (tys_LiB.all fun p => !p.2.keyok) = true := by kernel_rfl
theorem tysok_LiB : ∀ t i, (t, i) ∈ tys_LiB → TIok Try.prog t i := by
 intro t i h
 refine TIok_of (all_at (f := ckTI Try.prog) tysck_LiB h) (fun he => ?_) (fun he => ?_) (fun he => ?_)
 ·have h1 := List.all_eq_true.1 tyseq_LiB (t, i) h
  simp only [he, Bool.not_true, Bool.false_or, Bool.or_eq_true, Bool.and_eq_true] at h1
  have hs := h1.2
  obtain rfl := Nat.eq_of_beq_eq_true h1.1
  exact fun vs us hv hu => eq_Ins vs us (kindsV_of hs hv) (kindsV_of hs hu)
 ·have h1 := List.all_eq_true.1 tyseq_LiB (t, i) h
  simp only [he, Bool.not_true, Bool.false_or, Bool.or_eq_true, Bool.and_eq_true] at h1
  have hs := h1.2
  obtain rfl := Nat.eq_of_beq_eq_true h1.1
  exact grd_Ins
 ·have h1 := List.all_eq_true.1 tyskn_LiB (t, i) h
  simp [he] at h1
def sM_iwi (key : Nat) : Sm := ⟨54, key, [.one (.int .i64), .one (.int .i64), .one (.int .i64)], [.one .bool], false⟩
def sV_iwi (n : Int) (a : Int) (b : Int) : List Dt := [.z (b2i ((decide (a ≤ n) && decide (n ≤ b))))]
def sF_iwi : List Dt → List Dt
 | [.z x0, .z x1, .z x2] => sV_iwi x0 x1 x2
 | _ => []
def sT_iwi : Tr :=
(.br (.lt (.var 0) (.var 1))
(.leaf (.consb (.tt false) .nil))
(.leaf (.consb (.not (.lt (.var 2) (.var 0))) .nil)))
def sP_iwi : Spec := ⟨fun k => match k with | _ => fun _ => [], fun k => match k with | _ => fun _ => True⟩
set_option maxRecDepth 100000 in
theorem sR_iwi : treeIs tys_LiB [] [] [] [] 200 Try.f54 [.one (.int .i64), .one (.int .i64), .one (.int .i64)] [.one .bool] false [.int .i64, .int .i64, .int .i64] sT_iwi := ⟨by kernel_rfl, by kernel_rfl, by kernel_rfl⟩
set_option maxRecDepth 100000 in
set_option maxHeartbeats 8000000 in
theorem sX_iwi (n : Int) (hn : inK .i64 n = true) (a : Int) (ha : inK .i64 a = true) (b : Int) (hb : inK .i64 b = true) (ρ : Env) (g : varsD ρ 0 [.int .i64, .int .i64, .int .i64] = [.z n, .z a, .z b]) : sT_iwi.asks sP_iwi (fun ρ e => e.D ρ = sF_iwi [.z n, .z a, .z b]) ρ fun _ _ => False := by
 simp only [varsD, varD, List.cons.injEq, Dt.z.injEq, Dt.l.injEq, b2i_eq_iff, Nat.reduceAdd, and_true] at g
 simp only [sT_iwi, sP_iwi, sF_iwi, sV_iwi, Tr.asks, upd_same, okDs, okD, eqs, E.I, E.B, E.L, E.R, E.D, E.vs, dI, dB, dL, varD, varsD, List.getElem?_cons_zero, List.getElem?_cons_succ, List.cons_append, List.nil_append, Nat.zero_add, Nat.add_zero, Nat.reduceAdd, and_true, true_and, b2i_one, -eq_self, Ins.eta, Prog.eta, insAt_mk, g]
 refine ⟨fun c0 => ?_, fun c0 => ?_⟩
 ·(refine zb ?_; rw [Bool.eq_iff_iff]; simp at *; omega)
 ·(refine zb ?_; rw [Bool.eq_iff_iff]; simp at *; omega)
theorem sK_iwi {sp : Spec} {key : Nat} (hF : sp.F key = sF_iwi) (hP : sp.pre key = fun _ => True := by rfl) : SmOk Try.prog sp (sM_iwi key) :=
 fun_ok (s := sM_iwi key) hF hP (by kernel_rfl) tysok_LiB (sm0) Try.func54 fn0 sR_iwi (.inl rfl) (fun x0 gx0 x1 gx1 x2 gx2 hp ρ g => sX_iwi x0 gx0 x1 gx1 x2 gx2 ρ g)
def sM_iwb (key : Nat) : Sm := ⟨71, key, [.one (.int .i8), .one (.int .i8), .one (.int .i8)], [.one .bool], false⟩
def sV_iwb (n : Int) (a : Int) (b : Int) : List Dt := [.z (b2i ((decide (a ≤ n) && decide (n ≤ b))))]
def sF_iwb : List Dt → List Dt
 | [.z x0, .z x1, .z x2] => sV_iwb x0 x1 x2
 | _ => []
def sT_iwb : Tr :=
(.br (.lt (.var 0) (.var 1))
(.leaf (.consb (.tt false) .nil))
(.leaf (.consb (.not (.lt (.var 2) (.var 0))) .nil)))
def sP_iwb : Spec := ⟨fun k => match k with | _ => fun _ => [], fun k => match k with | _ => fun _ => True⟩
set_option maxRecDepth 100000 in
theorem sR_iwb : treeIs tys_LiB [] [] [] [] 200 Try.f71 [.one (.int .i8), .one (.int .i8), .one (.int .i8)] [.one .bool] false [.int .i8, .int .i8, .int .i8] sT_iwb := ⟨by kernel_rfl, by kernel_rfl, by kernel_rfl⟩
set_option maxRecDepth 100000 in
set_option maxHeartbeats 8000000 in
theorem sX_iwb (n : Int) (hn : inK .i8 n = true) (a : Int) (ha : inK .i8 a = true) (b : Int) (hb : inK .i8 b = true) (ρ : Env) (g : varsD ρ 0 [.int .i8, .int .i8, .int .i8] = [.z n, .z a, .z b]) : sT_iwb.asks sP_iwb (fun ρ e => e.D ρ = sF_iwb [.z n, .z a, .z b]) ρ fun _ _ => False := by
 simp only [varsD, varD, List.cons.injEq, Dt.z.injEq, Dt.l.injEq, b2i_eq_iff, Nat.reduceAdd, and_true] at g
 simp only [sT_iwb, sP_iwb, sF_iwb, sV_iwb, Tr.asks, upd_same, okDs, okD, eqs, E.I, E.B, E.L, E.R, E.D, E.vs, dI, dB, dL, varD, varsD, List.getElem?_cons_zero, List.getElem?_cons_succ, List.cons_append, List.nil_append, Nat.zero_add, Nat.add_zero, Nat.reduceAdd, and_true, true_and, b2i_one, -eq_self, Ins.eta, Prog.eta, insAt_mk, g]
 refine ⟨fun c0 => ?_, fun c0 => ?_⟩
 ·(refine zb ?_; rw [Bool.eq_iff_iff]; simp at *; omega)
 ·(refine zb ?_; rw [Bool.eq_iff_iff]; simp at *; omega)
theorem sK_iwb {sp : Spec} {key : Nat} (hF : sp.F key = sF_iwb) (hP : sp.pre key = fun _ => True := by rfl) : SmOk Try.prog sp (sM_iwb key) :=
 fun_ok (s := sM_iwb key) hF hP (by kernel_rfl) tysok_LiB (sm0) Try.func71 fn0 sR_iwb (.inl rfl) (fun x0 gx0 x1 gx1 x2 gx2 hp ρ g => sX_iwb x0 gx0 x1 gx1 x2 gx2 ρ g)
def sM_isz (key : Nat) : Sm := ⟨84, key, [.one (.int .i8)], [.one .bool], false⟩
def sV_isz (n : Int) : List Dt := [.z (b2i (sized n))]
def sF_isz : List Dt → List Dt
 | [.z x0] => sV_isz x0
 | _ => []
def sT_isz : Tr :=
(.br (.eq (.var 0) (.lit 1))
(.leaf (.consb (.tt true) .nil))
(.br (.eq (.var 0) (.lit 2))
(.leaf (.consb (.tt true) .nil))
(.br (.eq (.var 0) (.lit 4))
(.leaf (.consb (.tt true) .nil))
(.leaf (.consb (.eq (.var 0) (.lit 8)) .nil)))))
def sP_isz : Spec := ⟨fun k => match k with | _ => fun _ => [], fun k => match k with | _ => fun _ => True⟩
set_option maxRecDepth 100000 in
theorem sR_isz : treeIs tys_LiB [] [] [] [] 200 Try.f84 [.one (.int .i8)] [.one .bool] false [.int .i8] sT_isz := ⟨by kernel_rfl, by kernel_rfl, by kernel_rfl⟩
set_option maxRecDepth 100000 in
set_option maxHeartbeats 8000000 in
theorem sX_isz (n : Int) (hn : inK .i8 n = true) (ρ : Env) (g : varsD ρ 0 [.int .i8] = [.z n]) : sT_isz.asks sP_isz (fun ρ e => e.D ρ = sF_isz [.z n]) ρ fun _ _ => False := by
 simp only [varsD, varD, List.cons.injEq, Dt.z.injEq, Dt.l.injEq, b2i_eq_iff, Nat.reduceAdd, and_true] at g
 simp only [sT_isz, sP_isz, sF_isz, sV_isz, Tr.asks, upd_same, okDs, okD, eqs, E.I, E.B, E.L, E.R, E.D, E.vs, dI, dB, dL, varD, varsD, List.getElem?_cons_zero, List.getElem?_cons_succ, List.cons_append, List.nil_append, Nat.zero_add, Nat.add_zero, Nat.reduceAdd, and_true, true_and, b2i_one, -eq_self, Ins.eta, Prog.eta, insAt_mk, g]
 refine ⟨fun c0 => ?_, fun c0 => ?_⟩
 ·(refine zb ?_; unfold sized; rw [Bool.eq_iff_iff]; simp at *; omega)
 refine ⟨fun c1 => ?_, fun c1 => ?_⟩
 ·(refine zb ?_; unfold sized; rw [Bool.eq_iff_iff]; simp at *; omega)
 refine ⟨fun c2 => ?_, fun c2 => ?_⟩
 ·(refine zb ?_; unfold sized; rw [Bool.eq_iff_iff]; simp at *; omega)
 ·(refine zb ?_; unfold sized; rw [Bool.eq_iff_iff]; simp at *; omega)
theorem sK_isz {sp : Spec} {key : Nat} (hF : sp.F key = sF_isz) (hP : sp.pre key = fun _ => True := by rfl) : SmOk Try.prog sp (sM_isz key) :=
 fun_ok (s := sM_isz key) hF hP (by kernel_rfl) tysok_LiB (sm0) Try.func84 fn0 sR_isz (.inl rfl) (fun x0 gx0 hp ρ g => sX_isz x0 gx0 ρ g)
def sM_ibare (key : Nat) : Sm := ⟨72, key, [.agg kIns], [.agg kIns, .one .bool], true⟩
def sV_ibare (x : Ins) : List Dt := [.z (((ibare x).1).k), .z (((ibare x).1).op), .z (((ibare x).1).w), .z (((ibare x).1).sz), .z (b2i (((ibare x).1).br)), .z (((ibare x).1).d), .z (((ibare x).1).s), .z (((ibare x).1).off), .z (((ibare x).1).imm), .z (b2i ((ibare x).2))]
def sF_ibare : List Dt → List Dt
 | [.z x0, .z x1, .z x2, .z x3, .z x4, .z x5, .z x6, .z x7, .z x8] => sV_ibare ⟨x0, x1, x2, x3, (x4 == 1), x5, x6, x7, x8⟩
 | _ => []
set_option maxRecDepth 100000 in
def sT_ibare : Tr :=
(.br (.eq (.var 0) (.lit 0))
(.call 1 [.bool] (.cons (.var 1) (.cons (.lit 0) (.cons (.lit 12) .nil))) 9
(.br (.bvar 9)
(.br (.eq (.var 2) (.lit 32))
(.br (.lt (.var 5) (.lit 10))
(.br (.eq (.var 1) (.lit 8))
(.br (.bvar 4)
(.leaf (.cons (.var 0) (.cons (.lit 0) (.cons (.lit 0) (.cons (.var 3) (.consb (.tt false) (.cons (.lit 0) (.cons (.lit 0) (.vs 7 2 (.consb (.tt false) .nil))))))))))
(.leaf (.cons (.var 0) (.cons (.lit 0) (.cons (.lit 0) (.cons (.var 3) (.consb (.tt false) (.cons (.lit 0) (.vs 6 2 (.cons (.lit 0) (.consb (.eq (.var 8) (.lit 0)) .nil)))))))))))
(.br (.bvar 4)
(.leaf (.cons (.var 0) (.cons (.lit 0) (.cons (.lit 0) (.cons (.var 3) (.consb (.tt false) (.cons (.lit 0) (.cons (.lit 0) (.vs 7 2 (.consb (.tt true) .nil))))))))))
(.leaf (.cons (.var 0) (.cons (.lit 0) (.cons (.lit 0) (.cons (.var 3) (.consb (.tt false) (.cons (.lit 0) (.vs 6 2 (.cons (.lit 0) (.consb (.tt true) .nil))))))))))))
(.br (.bvar 4)
(.leaf (.cons (.var 0) (.cons (.lit 0) (.cons (.lit 0) (.cons (.var 3) (.consb (.tt false) (.cons (.lit 0) (.cons (.lit 0) (.vs 7 2 (.consb (.tt false) .nil))))))))))
(.leaf (.cons (.var 0) (.cons (.lit 0) (.cons (.lit 0) (.cons (.var 3) (.consb (.tt false) (.cons (.lit 0) (.vs 6 2 (.cons (.lit 0) (.consb (.tt false) .nil))))))))))))
(.br (.eq (.var 2) (.lit 64))
(.br (.lt (.var 5) (.lit 10))
(.br (.eq (.var 1) (.lit 8))
(.br (.bvar 4)
(.leaf (.cons (.var 0) (.cons (.lit 0) (.cons (.lit 0) (.cons (.var 3) (.consb (.tt false) (.cons (.lit 0) (.cons (.lit 0) (.vs 7 2 (.consb (.tt false) .nil))))))))))
(.leaf (.cons (.var 0) (.cons (.lit 0) (.cons (.lit 0) (.cons (.var 3) (.consb (.tt false) (.cons (.lit 0) (.vs 6 2 (.cons (.lit 0) (.consb (.eq (.var 8) (.lit 0)) .nil)))))))))))
(.br (.bvar 4)
(.leaf (.cons (.var 0) (.cons (.lit 0) (.cons (.lit 0) (.cons (.var 3) (.consb (.tt false) (.cons (.lit 0) (.cons (.lit 0) (.vs 7 2 (.consb (.tt true) .nil))))))))))
(.leaf (.cons (.var 0) (.cons (.lit 0) (.cons (.lit 0) (.cons (.var 3) (.consb (.tt false) (.cons (.lit 0) (.vs 6 2 (.cons (.lit 0) (.consb (.tt true) .nil))))))))))))
(.br (.bvar 4)
(.leaf (.cons (.var 0) (.cons (.lit 0) (.cons (.lit 0) (.cons (.var 3) (.consb (.tt false) (.cons (.lit 0) (.cons (.lit 0) (.vs 7 2 (.consb (.tt false) .nil))))))))))
(.leaf (.cons (.var 0) (.cons (.lit 0) (.cons (.lit 0) (.cons (.var 3) (.consb (.tt false) (.cons (.lit 0) (.vs 6 2 (.cons (.lit 0) (.consb (.tt false) .nil))))))))))))
(.br (.bvar 4)
(.leaf (.cons (.var 0) (.cons (.lit 0) (.cons (.lit 0) (.cons (.var 3) (.consb (.tt false) (.cons (.lit 0) (.cons (.lit 0) (.vs 7 2 (.consb (.tt false) .nil))))))))))
(.leaf (.cons (.var 0) (.cons (.lit 0) (.cons (.lit 0) (.cons (.var 3) (.consb (.tt false) (.cons (.lit 0) (.vs 6 2 (.cons (.lit 0) (.consb (.tt false) .nil)))))))))))))
(.br (.bvar 4)
(.leaf (.cons (.var 0) (.cons (.lit 0) (.cons (.lit 0) (.cons (.var 3) (.consb (.tt false) (.cons (.lit 0) (.cons (.lit 0) (.vs 7 2 (.consb (.tt false) .nil))))))))))
(.leaf (.cons (.var 0) (.cons (.lit 0) (.cons (.lit 0) (.cons (.var 3) (.consb (.tt false) (.cons (.lit 0) (.vs 6 2 (.cons (.lit 0) (.consb (.tt false) .nil)))))))))))))
(.br (.eq (.var 0) (.lit 1))
(.call 2 [.bool] (.cons (.var 3) .nil) 9
(.br (.bvar 9)
(.leaf (.vs 0 3 (.cons (.lit 0) (.consb (.bvar 4) (.cons (.lit 0) (.cons (.lit 0) (.cons (.lit 0) (.cons (.var 8) (.consb (.lt (.var 5) (.lit 10)) .nil)))))))))
(.leaf (.vs 0 3 (.cons (.lit 0) (.consb (.bvar 4) (.cons (.lit 0) (.cons (.lit 0) (.cons (.lit 0) (.cons (.var 8) (.consb (.tt false) .nil)))))))))))
(.br (.eq (.var 0) (.lit 2))
(.call 2 [.bool] (.cons (.var 3) .nil) 9
(.leaf (.vs 0 3 (.cons (.lit 0) (.consb (.bvar 4) (.cons (.lit 0) (.cons (.lit 0) (.cons (.lit 0) (.cons (.var 8) (.consb (.bvar 9) .nil))))))))))
(.br (.eq (.var 0) (.lit 3))
(.call 1 [.bool] (.cons (.var 1) (.cons (.lit 0) (.cons (.lit 10) .nil))) 9
(.br (.bvar 4)
(.leaf (.cons (.var 0) (.cons (.lit 0) (.vs 2 2 (.consb (.tt false) (.cons (.lit 0) (.cons (.lit 0) (.cons (.lit 0) (.cons (.var 8) (.consb (.bvar 9) .nil))))))))))
(.leaf (.cons (.var 0) (.cons (.lit 0) (.vs 2 2 (.consb (.tt false) (.cons (.lit 0) (.cons (.var 6) (.cons (.lit 0) (.cons (.lit 0) (.consb (.bvar 9) .nil))))))))))))
(.br (.eq (.var 0) (.lit 4))
(.leaf (.vs 0 4 (.consb (.bvar 4) (.vs 5 2 (.cons (.lit 0) (.cons (.var 8) (.consb (.tt true) .nil)))))))
(.br (.eq (.var 0) (.lit 5))
(.call 0 [.bool] (.cons (.var 8) (.cons (.lit 0) (.cons (.lit 15) .nil))) 9
(.leaf (.vs 0 4 (.consb (.bvar 4) (.vs 5 3 (.cons (.lit 0) (.consb (.bvar 9) .nil)))))))
(.br (.eq (.var 0) (.lit 6))
(.leaf (.vs 0 4 (.consb (.bvar 4) (.vs 5 4 (.consb (.tt true) .nil)))))
(.leaf (.vs 0 4 (.consb (.bvar 4) (.vs 5 4 (.consb (.tt false) .nil))))))))))))
def sP_ibare : Spec := ⟨fun k => match k with | 0 => sF_iwi | 1 => sF_iwb | 2 => sF_isz | _ => fun _ => [], fun k => match k with | _ => fun _ => True⟩
set_option maxRecDepth 100000 in
theorem sR_ibare : treeIs tys_LiB [sM_iwi 0, sM_iwb 1, sM_isz 2] [(83, Try.f83, [], [])] [] [] 200 Try.f72 [.agg kIns] [.agg kIns, .one .bool] true [.int .i8, .int .i8, .int .i8, .int .i8, .bool, .int .i8, .int .i8, .int .i64, .int .i64] sT_ibare := ⟨by kernel_rfl, by kernel_rfl, by kernel_rfl⟩
set_option maxRecDepth 100000 in
set_option maxHeartbeats 8000000 in
theorem sX_ibare (x : Ins) (hx : Ins.ok x) (ρ : Env) (g : varsD ρ 0 [.int .i8, .int .i8, .int .i8, .int .i8, .bool, .int .i8, .int .i8, .int .i64, .int .i64] = [.z x.k, .z x.op, .z x.w, .z x.sz, .z (b2i x.br), .z x.d, .z x.s, .z x.off, .z x.imm]) : sT_ibare.asks sP_ibare (fun ρ e => e.D ρ = sF_ibare [.z x.k, .z x.op, .z x.w, .z x.sz, .z (b2i x.br), .z x.d, .z x.s, .z x.off, .z x.imm]) ρ fun _ _ => False := by
 simp only [varsD, varD, List.cons.injEq, Dt.z.injEq, Dt.l.injEq, b2i_eq_iff, Nat.reduceAdd, and_true] at g
 simp only [sT_ibare, sP_ibare, sF_iwi, sF_iwb, sF_isz, sV_iwi, sV_iwb, sV_isz, sF_ibare, sV_ibare, Tr.asks, upd_same, okDs, okD, eqs, E.I, E.B, E.L, E.R, E.D, E.vs, dI, dB, dL, varD, varsD, List.getElem?_cons_zero, List.getElem?_cons_succ, List.cons_append, List.nil_append, Nat.zero_add, Nat.add_zero, Nat.reduceAdd, and_true, true_and, b2i_one, -eq_self, Ins.eta, Prog.eta, insAt_mk, g]
 refine ⟨fun c0 => ?_, fun c0 => ?_⟩
 intro e; (try simp only [e, Ins.eta, Prog.eta, insAt_mk, -eq_self]); clear e
 refine ⟨fun c1 => ?_, fun c1 => ?_⟩
 refine ⟨fun c2 => ?_, fun c2 => ?_⟩
 refine ⟨fun c3 => ?_, fun c3 => ?_⟩
 refine ⟨fun c4 => ?_, fun c4 => ?_⟩
 refine ⟨fun c5 => ?_, fun c5 => ?_⟩
 ·(unfold ibare immz; simp_all <;> omega)
 ·(unfold ibare immz; simp_all <;> omega)
 refine ⟨fun c6 => ?_, fun c6 => ?_⟩
 ·(unfold ibare immz; simp_all <;> omega)
 ·(unfold ibare immz; simp_all <;> omega)
 refine ⟨fun c7 => ?_, fun c7 => ?_⟩
 ·(unfold ibare immz; simp_all <;> omega)
 ·(unfold ibare immz; simp_all <;> omega)
 refine ⟨fun c8 => ?_, fun c8 => ?_⟩
 refine ⟨fun c9 => ?_, fun c9 => ?_⟩
 refine ⟨fun c10 => ?_, fun c10 => ?_⟩
 refine ⟨fun c11 => ?_, fun c11 => ?_⟩
 ·(unfold ibare immz; simp_all <;> omega)
 ·(unfold ibare immz; simp_all <;> omega)
 refine ⟨fun c12 => ?_, fun c12 => ?_⟩
 ·(unfold ibare immz; simp_all <;> omega)
 ·(unfold ibare immz; simp_all <;> omega)
 refine ⟨fun c13 => ?_, fun c13 => ?_⟩
 ·(unfold ibare immz; simp_all <;> omega)
 ·(unfold ibare immz; simp_all <;> omega)
 refine ⟨fun c14 => ?_, fun c14 => ?_⟩
 ·(unfold ibare immz; simp_all <;> omega)
 ·(unfold ibare immz; simp_all <;> omega)
 refine ⟨fun c15 => ?_, fun c15 => ?_⟩
 ·(unfold ibare immz; simp_all <;> omega)
 ·(unfold ibare immz; simp_all <;> omega)
 refine ⟨fun c16 => ?_, fun c16 => ?_⟩
 intro e; (try simp only [e, Ins.eta, Prog.eta, insAt_mk, -eq_self]); clear e
 refine ⟨fun c17 => ?_, fun c17 => ?_⟩
 ·(unfold ibare immz; simp_all <;> omega)
 ·(unfold ibare immz; simp_all <;> omega)
 refine ⟨fun c18 => ?_, fun c18 => ?_⟩
 intro e; (try simp only [e, Ins.eta, Prog.eta, insAt_mk, -eq_self]); clear e
 ·(unfold ibare immz; simp_all <;> omega)
 refine ⟨fun c19 => ?_, fun c19 => ?_⟩
 intro e; (try simp only [e, Ins.eta, Prog.eta, insAt_mk, -eq_self]); clear e
 refine ⟨fun c20 => ?_, fun c20 => ?_⟩
 ·(unfold ibare immz; simp_all <;> omega)
 ·(unfold ibare immz; simp_all <;> omega)
 refine ⟨fun c21 => ?_, fun c21 => ?_⟩
 ·(unfold ibare immz; simp_all <;> omega)
 refine ⟨fun c22 => ?_, fun c22 => ?_⟩
 intro e; (try simp only [e, Ins.eta, Prog.eta, insAt_mk, -eq_self]); clear e
 ·(unfold ibare immz; simp_all <;> omega)
 refine ⟨fun c23 => ?_, fun c23 => ?_⟩
 ·(unfold ibare immz; simp_all <;> omega)
 ·(unfold ibare immz; simp_all <;> omega)
theorem sK_ibare {sp : Spec} {key : Nat} (hF : sp.F key = sF_ibare) (hP : sp.pre key = fun _ => True := by rfl) : SmOk Try.prog sp (sM_ibare key) :=
 fun_ok (s := sM_ibare key) hF hP (by kernel_rfl) tysok_LiB (smc (sK_iwi rfl) (smc (sK_iwb rfl) (smc (sK_isz rfl) sm0))) Try.func72 (fnc Try.func83 fn0) sR_ibare (.inl rfl) (fun x0 gx0 x1 gx1 x2 gx2 x3 gx3 x4 x5 gx5 x6 gx6 x7 gx7 x8 gx8 hp ρ g => sX_ibare ⟨x0, x1, x2, x3, x4, x5, x6, x7, x8⟩ ⟨gx0, gx1, gx2, gx3, gx5, gx6, gx7, gx8⟩ ρ g)
def sM_imay (key : Nat) : Sm := ⟨55, key, [.agg kIns], [.one .bool], false⟩
def sV_imay (x : Ins) : List Dt := [.z (b2i (imay x))]
def sF_imay : List Dt → List Dt
 | [.z x0, .z x1, .z x2, .z x3, .z x4, .z x5, .z x6, .z x7, .z x8] => sV_imay ⟨x0, x1, x2, x3, (x4 == 1), x5, x6, x7, x8⟩
 | _ => []
def sT_imay : Tr :=
(.call 1 [.bool] (.cons (.var 5) (.cons (.lit 0) (.cons (.lit 10) .nil))) 9
(.br (.bvar 9)
(.call 1 [.bool] (.cons (.var 6) (.cons (.lit 0) (.cons (.lit 10) .nil))) 10
(.br (.bvar 10)
(.call 0 [.bool] (.cons (.var 7) (.cons (.lit (-32768)) (.cons (.lit 32767) .nil))) 11
(.br (.bvar 11)
(.call 0 [.bool] (.cons (.var 8) (.cons (.lit (-2147483648)) (.cons (.lit 2147483647) .nil))) 12
(.br (.bvar 12)
(.call 2 (kIns ++ [.bool]) (.vs 0 4 (.consb (.bvar 4) (.vs 5 4 .nil))) 13
(.br (.bvar 22)
(.leaf (.consb (.and (.eq (.var 13) (.var 0)) (.and (.eq (.var 14) (.lit 0)) (.and (.eq (.var 15) (.lit 0)) (.and (.eq (.var 16) (.lit 0)) (.and (.not (.bvar 17)) (.and (.eq (.var 18) (.lit 0)) (.and (.eq (.var 19) (.lit 0)) (.and (.eq (.var 20) (.lit 0)) (.and (.eq (.var 21) (.lit 0)) (.tt true)))))))))) .nil))
(.leaf (.consb (.tt false) .nil))))
(.leaf (.consb (.tt false) .nil))))
(.leaf (.consb (.tt false) .nil))))
(.leaf (.consb (.tt false) .nil))))
(.leaf (.consb (.tt false) .nil))))
def sP_imay : Spec := ⟨fun k => match k with | 0 => sF_iwi | 1 => sF_iwb | 2 => sF_ibare | _ => fun _ => [], fun k => match k with | _ => fun _ => True⟩
set_option maxRecDepth 100000 in
theorem sR_imay : treeIs tys_LiB [sM_iwi 0, sM_iwb 1, sM_ibare 2] [] [] [] 200 Try.f55 [.agg kIns] [.one .bool] false [.int .i8, .int .i8, .int .i8, .int .i8, .bool, .int .i8, .int .i8, .int .i64, .int .i64] sT_imay := ⟨by kernel_rfl, by kernel_rfl, by kernel_rfl⟩
set_option maxRecDepth 100000 in
set_option maxHeartbeats 8000000 in
theorem sX_imay (x : Ins) (hx : Ins.ok x) (ρ : Env) (g : varsD ρ 0 [.int .i8, .int .i8, .int .i8, .int .i8, .bool, .int .i8, .int .i8, .int .i64, .int .i64] = [.z x.k, .z x.op, .z x.w, .z x.sz, .z (b2i x.br), .z x.d, .z x.s, .z x.off, .z x.imm]) : sT_imay.asks sP_imay (fun ρ e => e.D ρ = sF_imay [.z x.k, .z x.op, .z x.w, .z x.sz, .z (b2i x.br), .z x.d, .z x.s, .z x.off, .z x.imm]) ρ fun _ _ => False := by
 simp only [varsD, varD, List.cons.injEq, Dt.z.injEq, Dt.l.injEq, b2i_eq_iff, Nat.reduceAdd, and_true] at g
 simp only [sT_imay, sP_imay, kIns, sF_iwi, sF_iwb, sF_ibare, sV_iwi, sV_iwb, sV_ibare, sF_imay, sV_imay, Tr.asks, upd_same, okDs, okD, eqs, E.I, E.B, E.L, E.R, E.D, E.vs, dI, dB, dL, varD, varsD, List.getElem?_cons_zero, List.getElem?_cons_succ, List.cons_append, List.nil_append, Nat.zero_add, Nat.add_zero, Nat.reduceAdd, and_true, true_and, b2i_one, -eq_self, Ins.eta, Prog.eta, insAt_mk, g]
 intro e; (try simp only [e, Ins.eta, Prog.eta, insAt_mk, -eq_self]); clear e
 refine ⟨fun c0 => ?_, fun c0 => ?_⟩
 intro e; (try simp only [e, Ins.eta, Prog.eta, insAt_mk, -eq_self]); clear e
 refine ⟨fun c1 => ?_, fun c1 => ?_⟩
 intro e; (try simp only [e, Ins.eta, Prog.eta, insAt_mk, -eq_self]); clear e
 refine ⟨fun c2 => ?_, fun c2 => ?_⟩
 intro e; (try simp only [e, Ins.eta, Prog.eta, insAt_mk, -eq_self]); clear e
 refine ⟨fun c3 => ?_, fun c3 => ?_⟩
 intro e; (try simp only [e, Ins.eta, Prog.eta, insAt_mk, -eq_self]); clear e
 refine ⟨fun c4 => ?_, fun c4 => ?_⟩
 ·(unfold imay inside isBare; simp_all <;> omega)
 ·(unfold imay inside isBare; simp_all <;> omega)
 ·(unfold imay inside isBare; simp_all <;> omega)
 ·(unfold imay inside isBare; simp_all <;> omega)
 ·(unfold imay inside isBare; simp_all <;> omega)
 ·(unfold imay inside isBare; simp_all <;> omega)
theorem sK_imay {sp : Spec} {key : Nat} (hF : sp.F key = sF_imay) (hP : sp.pre key = fun _ => True := by rfl) : SmOk Try.prog sp (sM_imay key) :=
 fun_ok (s := sM_imay key) hF hP (by kernel_rfl) tysok_LiB (smc (sK_iwi rfl) (smc (sK_iwb rfl) (smc (sK_ibare rfl) sm0))) Try.func55 fn0 sR_imay (.inl rfl) (fun x0 gx0 x1 gx1 x2 gx2 x3 gx3 x4 x5 gx5 x6 gx6 x7 gx7 x8 gx8 hp ρ g => sX_imay ⟨x0, x1, x2, x3, x4, x5, x6, x7, x8⟩ ⟨gx0, gx1, gx2, gx3, gx5, gx6, gx7, gx8⟩ ρ g)
def sM_itgt (key : Nat) : Sm := ⟨56, key, [.one (.int .i64), .agg kIns], [.one (.int .i64), .one .bool], true⟩
def sV_itgt (i : Int) (x : Ins) : List Dt := [.z ((itgt i x).1), .z (b2i ((itgt i x).2))]
def sF_itgt : List Dt → List Dt
 | [.z x0, .z x1, .z x2, .z x3, .z x4, .z x5, .z x6, .z x7, .z x8, .z x9] => sV_itgt x0 ⟨x1, x2, x3, x4, (x5 == 1), x6, x7, x8, x9⟩
 | _ => []
def sT_itgt : Tr :=
(.br (.eq (.var 1) (.lit 3))
(.call 0 [.bool] (.cons (.var 0) (.cons (.lit (-1099511627776)) (.cons (.lit 1099511627776) .nil))) 10
(.br (.bvar 10)
(.call 0 [.bool] (.cons (.var 8) (.cons (.lit (-1099511627776)) (.cons (.lit 1099511627776) .nil))) 11
(.br (.bvar 11)
(.leaf (.cons (.bin .add .i64 (.bin .add .i64 (.var 0) (.lit 1)) (.var 8)) (.consb (.tt true) .nil)))
(.leaf (.cons (.lit 0) (.consb (.tt false) .nil)))))
(.leaf (.cons (.lit 0) (.consb (.tt false) .nil)))))
(.br (.eq (.var 1) (.lit 4))
(.call 0 [.bool] (.cons (.var 0) (.cons (.lit (-1099511627776)) (.cons (.lit 1099511627776) .nil))) 10
(.br (.bvar 10)
(.call 0 [.bool] (.cons (.var 8) (.cons (.lit (-1099511627776)) (.cons (.lit 1099511627776) .nil))) 11
(.br (.bvar 11)
(.leaf (.cons (.bin .add .i64 (.bin .add .i64 (.var 0) (.lit 1)) (.var 8)) (.consb (.tt true) .nil)))
(.leaf (.cons (.lit 0) (.consb (.tt false) .nil)))))
(.leaf (.cons (.lit 0) (.consb (.tt false) .nil)))))
(.leaf (.cons (.lit 0) (.consb (.tt false) .nil)))))
def sP_itgt : Spec := ⟨fun k => match k with | 0 => sF_iwi | _ => fun _ => [], fun k => match k with | _ => fun _ => True⟩
set_option maxRecDepth 100000 in
theorem sR_itgt : treeIs tys_LiB [sM_iwi 0] [] [] [] 200 Try.f56 [.one (.int .i64), .agg kIns] [.one (.int .i64), .one .bool] true [.int .i64, .int .i8, .int .i8, .int .i8, .int .i8, .bool, .int .i8, .int .i8, .int .i64, .int .i64] sT_itgt := ⟨by kernel_rfl, by kernel_rfl, by kernel_rfl⟩
set_option maxRecDepth 100000 in
set_option maxHeartbeats 8000000 in
theorem sX_itgt (i : Int) (hi : inK .i64 i = true) (x : Ins) (hx : Ins.ok x) (ρ : Env) (g : varsD ρ 0 [.int .i64, .int .i8, .int .i8, .int .i8, .int .i8, .bool, .int .i8, .int .i8, .int .i64, .int .i64] = [.z i, .z x.k, .z x.op, .z x.w, .z x.sz, .z (b2i x.br), .z x.d, .z x.s, .z x.off, .z x.imm]) : sT_itgt.asks sP_itgt (fun ρ e => e.D ρ = sF_itgt [.z i, .z x.k, .z x.op, .z x.w, .z x.sz, .z (b2i x.br), .z x.d, .z x.s, .z x.off, .z x.imm]) ρ fun _ _ => False := by
 simp only [varsD, varD, List.cons.injEq, Dt.z.injEq, Dt.l.injEq, b2i_eq_iff, Nat.reduceAdd, and_true] at g
 simp only [sT_itgt, sP_itgt, sF_iwi, sV_iwi, sF_itgt, sV_itgt, Tr.asks, upd_same, okDs, okD, eqs, E.I, E.B, E.L, E.R, E.D, E.vs, dI, dB, dL, varD, varsD, List.getElem?_cons_zero, List.getElem?_cons_succ, List.cons_append, List.nil_append, Nat.zero_add, Nat.add_zero, Nat.reduceAdd, and_true, true_and, b2i_one, -eq_self, Ins.eta, Prog.eta, insAt_mk, g]
 refine ⟨fun c0 => ?_, fun c0 => ?_⟩
 intro e; (try simp only [e, Ins.eta, Prog.eta, insAt_mk, -eq_self]); clear e
 refine ⟨fun c1 => ?_, fun c1 => ?_⟩
 intro e; (try simp only [e, Ins.eta, Prog.eta, insAt_mk, -eq_self]); clear e
 refine ⟨fun c2 => ?_, fun c2 => ?_⟩
 ·rw [itgt_y (.inl (eqI c0)) c1 c2]; try rfl
 ·rw [itgt_o c2]; try rfl
 ·rw [itgt_i c1]; try rfl
 refine ⟨fun c3 => ?_, fun c3 => ?_⟩
 intro e; (try simp only [e, Ins.eta, Prog.eta, insAt_mk, -eq_self]); clear e
 refine ⟨fun c4 => ?_, fun c4 => ?_⟩
 intro e; (try simp only [e, Ins.eta, Prog.eta, insAt_mk, -eq_self]); clear e
 refine ⟨fun c5 => ?_, fun c5 => ?_⟩
 ·rw [itgt_y (.inr (eqI c3)) c4 c5]; try rfl
 ·rw [itgt_o c5]; try rfl
 ·rw [itgt_i c4]; try rfl
 ·rw [itgt_k c0 c3]; try rfl
theorem sK_itgt {sp : Spec} {key : Nat} (hF : sp.F key = sF_itgt) (hP : sp.pre key = fun _ => True := by rfl) : SmOk Try.prog sp (sM_itgt key) :=
 fun_ok (s := sM_itgt key) hF hP (by kernel_rfl) tysok_LiB (smc (sK_iwi rfl) sm0) Try.func56 fn0 sR_itgt (.inl rfl) (fun x0 gx0 x1 gx1 x2 gx2 x3 gx3 x4 gx4 x5 x6 gx6 x7 gx7 x8 gx8 x9 gx9 hp ρ g => sX_itgt x0 gx0 ⟨x1, x2, x3, x4, x5, x6, x7, x8, x9⟩ ⟨gx1, gx2, gx3, gx4, gx6, gx7, gx8, gx9⟩ ρ g)
def sM_iargs (key : Nat) : Sm := ⟨80, key, [.one (.int .i64)], [.one (.int .i64)], false⟩
def sV_iargs (n : Int) : List Dt := [.z (iargs n)]
def sF_iargs : List Dt → List Dt
 | [.z x0] => sV_iargs x0
 | _ => []
def sT_iargs : Tr :=
(.call 0 [.bool] (.cons (.var 0) (.cons (.lit 0) (.cons (.lit 15) .nil))) 1
(.br (.bvar 1)
(.leaf (.cons (.bin .rem .i64 (.var 0) (.lit 6)) .nil))
(.leaf (.cons (.lit 0) .nil))))
def sP_iargs : Spec := ⟨fun k => match k with | 0 => sF_iwi | _ => fun _ => [], fun k => match k with | _ => fun _ => True⟩
set_option maxRecDepth 100000 in
theorem sR_iargs : treeIs tys_LiB [sM_iwi 0] [] [] [] 200 Try.f80 [.one (.int .i64)] [.one (.int .i64)] false [.int .i64] sT_iargs := ⟨by kernel_rfl, by kernel_rfl, by kernel_rfl⟩
set_option maxRecDepth 100000 in
set_option maxHeartbeats 8000000 in
theorem sX_iargs (n : Int) (hn : inK .i64 n = true) (ρ : Env) (g : varsD ρ 0 [.int .i64] = [.z n]) : sT_iargs.asks sP_iargs (fun ρ e => e.D ρ = sF_iargs [.z n]) ρ fun _ _ => False := by
 simp only [varsD, varD, List.cons.injEq, Dt.z.injEq, Dt.l.injEq, b2i_eq_iff, Nat.reduceAdd, and_true] at g
 simp only [sT_iargs, sP_iargs, sF_iwi, sV_iwi, sF_iargs, sV_iargs, Tr.asks, upd_same, okDs, okD, eqs, E.I, E.B, E.L, E.R, E.D, E.vs, dI, dB, dL, varD, varsD, List.getElem?_cons_zero, List.getElem?_cons_succ, List.cons_append, List.nil_append, Nat.zero_add, Nat.add_zero, Nat.reduceAdd, and_true, true_and, b2i_one, -eq_self, Ins.eta, Prog.eta, insAt_mk, g]
 intro e; (try simp only [e, Ins.eta, Prog.eta, insAt_mk, -eq_self]); clear e
 refine ⟨fun c0 => ?_, fun c0 => ?_⟩
 ·rw [iargs_y c0]; try rfl
 ·rw [iargs_n c0]; try rfl
theorem sK_iargs {sp : Spec} {key : Nat} (hF : sp.F key = sF_iargs) (hP : sp.pre key = fun _ => True := by rfl) : SmOk Try.prog sp (sM_iargs key) :=
 fun_ok (s := sM_iargs key) hF hP (by kernel_rfl) tysok_LiB (smc (sK_iwi rfl) sm0) Try.func80 fn0 sR_iargs (.inl rfl) (fun x0 gx0 hp ρ g => sX_iargs x0 gx0 ρ g)
end Go.Proofs.Ytghiofgomcihcaa
