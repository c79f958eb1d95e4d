/- Contracts of the document's own instructions. -/
import Derived.Test.YtmkaphfdgdkaoaaLiC
import Derived.Test.YtmkaphfdgdkaoaaLiJ
import Derived.Test.YtmkaphfdgdkaoaaProg
import Derived.Laws.Externs
set_option linter.unusedVariables false
set_option linter.unusedSimpArgs false
namespace Go.Proofs.Ytmkaphfdgdkaoaa
open Go.RowKit Go.ChangeShapes Go.WideShapes

def tys_LiK : List (Nat × TI) := [(3, ⟨false, 1, [.int .i64 (.lit 0)], [], none, some .i64, false, false, none, 8, false, none, false⟩),
 (4, ⟨false, 1, [.bool (.tt false)], [], none, none, false, true, none, 1, false, none, false⟩),
 (31, ⟨false, 1, [.int .i8 (.lit 0)], [], none, some .i8, false, false, none, 1, false, none, false⟩),
 (33, ⟨true, 9, [.int .i8 (.lit 0), .int .i8 (.lit 0), .int .i8 (.lit 0), .int .i8 (.lit 0), .bool (.tt false), .int .i8 (.lit 0), .int .i8 (.lit 0), .int .i64 (.lit 0), .int .i64 (.lit 0)], [(0, 31), (1, 31), (2, 31), (3, 31), (4, 4), (5, 31), (6, 31), (7, 3), (8, 3)], none, none, true, false, none, 24, false, none, false⟩),
 (73, ⟨false, 1, [.int .u64 (.lit 0)], [], none, some .u64, false, false, none, 8, false, none, false⟩)]
set_option maxRecDepth 100000 in
theorem tysck_LiK : (tys_LiK.all fun p => ckTI Try.prog p.1 p.2) = true := by kernel_rfl
theorem tyseq_LiK : (tys_LiK.all fun p => !p.2.eqok || ((Nat.beq p.1 33 && kindsC p.2.zero z_Ins))) = true := by kernel_rfl
theorem tyskn_LiK : (tys_LiK.all fun p => !p.2.keyok) = true := by kernel_rfl
theorem tysok_LiK : ∀ t i, (t, i) ∈ tys_LiK → TIok Try.prog t i := by
  intro t i h
  refine TIok_of (all_at (f := ckTI Try.prog) tysck_LiK h) (fun he => ?_) (fun he => ?_) (fun he => ?_)
  · have h1 := List.all_eq_true.1 tyseq_LiK (t, i) h
    simp only [he, Bool.not_true, Bool.false_or, Bool.or_eq_true, Bool.and_eq_true] at h1
    have hs := h1.2
    obtain rfl := Nat.eq_of_beq_eq_true h1.1
    exact fun vs us hv hu => eq_Ins vs us (kindsV_of hs hv) (kindsV_of hs hu)
  · have h1 := List.all_eq_true.1 tyseq_LiK (t, i) h
    simp only [he, Bool.not_true, Bool.false_or, Bool.or_eq_true, Bool.and_eq_true] at h1
    have hs := h1.2
    obtain rfl := Nat.eq_of_beq_eq_true h1.1
    exact grd_Ins
  · have h1 := List.all_eq_true.1 tyskn_LiK (t, i) h
    simp [he] at h1
def sM_jsz (key : Nat) : Sm := ⟨75, key, [.one (.int .i8)], [.one .bool], false⟩
def sV_jsz (n : Int) : List Dt := [.z (b2i (sized n))]
def sF_jsz : List Dt → List Dt
  | [.z x0] => sV_jsz x0
  | _ => []
def sT_jsz : Tr :=
(.br (.eq (.var 0) (.lit 1))
(.leaf (.consb (.tt true) .nil))
(.br (.eq (.var 0) (.lit 2))
(.leaf (.consb (.tt true) .nil))
(.br (.eq (.var 0) (.lit 4))
(.leaf (.consb (.tt true) .nil))
(.leaf (.consb (.eq (.var 0) (.lit 8)) .nil)))))
def sP_jsz : Spec := ⟨fun k => match k with | _ => fun _ => [], fun k => match k with | _ => fun _ => True⟩
set_option maxRecDepth 100000 in
theorem sR_jsz : treeIs tys_LiK [] [] [] [] 200 Try.f75 [.one (.int .i8)] [.one .bool] false [.int .i8] sT_jsz := ⟨by kernel_rfl, by kernel_rfl, by kernel_rfl⟩
set_option maxRecDepth 100000 in
set_option maxHeartbeats 8000000 in
theorem sX_jsz (n : Int) (hn : inK .i8 n = true) (ρ : Env) (g : varsD ρ 0 [.int .i8] = [.z n]) : sT_jsz.asks sP_jsz (fun ρ e => e.D ρ = sF_jsz [.z n]) ρ fun _ _ => False := by
  simp only [varsD, varD, List.cons.injEq, Dt.z.injEq, Dt.l.injEq, b2i_eq_iff, Nat.reduceAdd, and_true] at g
  simp only [sT_jsz, sP_jsz, sF_jsz, sV_jsz, Tr.asks, upd_same, okDs, okD, eqs, E.I, E.B, E.L, E.R, E.D, E.vs, dI, dB, dL, varD, varsD, List.getElem?_cons_zero, List.getElem?_cons_succ, List.cons_append, List.nil_append, Nat.zero_add, Nat.add_zero, Nat.reduceAdd, and_true, true_and, b2i_one, -eq_self, Ins.eta, Prog.eta, insAt_mk, g]
  refine ⟨fun c0 => ?_, fun c0 => ?_⟩
  · (refine zb ?_; unfold sized; rw [Bool.eq_iff_iff]; simp at *; omega)
  refine ⟨fun c1 => ?_, fun c1 => ?_⟩
  · (refine zb ?_; unfold sized; rw [Bool.eq_iff_iff]; simp at *; omega)
  refine ⟨fun c2 => ?_, fun c2 => ?_⟩
  · (refine zb ?_; unfold sized; rw [Bool.eq_iff_iff]; simp at *; omega)
  · (refine zb ?_; unfold sized; rw [Bool.eq_iff_iff]; simp at *; omega)
theorem sK_jsz {sp : Spec} {key : Nat} (hF : sp.F key = sF_jsz) (hP : sp.pre key = fun _ => True := by rfl) : SmOk Try.prog sp (sM_jsz key) :=
  fun_ok (s := sM_jsz key) hF hP (by kernel_rfl) tysok_LiK (sm0) Try.func75 fn0 sR_jsz (.inl rfl) (fun x0 gx0 hp ρ g => sX_jsz x0 gx0 ρ g)
def sM_jfields (key : Nat) : Sm := ⟨74, key, [.agg kIns], [.agg kIns], false⟩
def sV_jfields (x : Ins) : List Dt := [.z ((jfields x).k), .z ((jfields x).op), .z ((jfields x).w), .z ((jfields x).sz), .z (b2i ((jfields x).br)), .z ((jfields x).d), .z ((jfields x).s), .z ((jfields x).off), .z ((jfields x).imm)]
def sF_jfields : List Dt → List Dt
  | [.z x0, .z x1, .z x2, .z x3, .z x4, .z x5, .z x6, .z x7, .z x8] => sV_jfields ⟨x0, x1, x2, x3, (x4 == 1), x5, x6, x7, x8⟩
  | _ => []
def sT_jfields : Tr :=
(.br (.eq (.var 0) (.lit 0))
(.br (.bvar 4)
(.br (.eq (.var 1) (.lit 8))
(.leaf (.vs 0 3 (.cons (.lit 0) (.consb (.not (.eq (.var 1) (.lit 8))) (.cons (.var 5) (.cons (.lit 0) (.cons (.lit 0) (.cons (.lit 0) .nil))))))))
(.leaf (.vs 0 3 (.cons (.lit 0) (.consb (.not (.eq (.var 1) (.lit 8))) (.vs 5 2 (.cons (.lit 0) (.cons (.lit 0) .nil))))))))
(.br (.eq (.var 1) (.lit 8))
(.leaf (.vs 0 3 (.cons (.lit 0) (.consb (.tt false) (.cons (.var 5) (.cons (.lit 0) (.cons (.lit 0) (.cons (.lit 0) .nil))))))))
(.leaf (.vs 0 3 (.cons (.lit 0) (.consb (.tt false) (.cons (.var 5) (.cons (.lit 0) (.cons (.lit 0) (.cons (.var 8) .nil))))))))))
(.br (.eq (.var 0) (.lit 1))
(.leaf (.cons (.var 0) (.cons (.lit 0) (.cons (.lit 0) (.cons (.var 3) (.consb (.tt false) (.vs 5 3 (.cons (.lit 0) .nil))))))))
(.br (.eq (.var 0) (.lit 2))
(.leaf (.cons (.var 0) (.cons (.lit 0) (.cons (.lit 0) (.cons (.var 3) (.consb (.tt false) (.vs 5 3 (.cons (.lit 0) .nil))))))))
(.br (.eq (.var 0) (.lit 3))
(.br (.bvar 4)
(.leaf (.vs 0 2 (.cons (.lit 0) (.cons (.lit 0) (.consb (.bvar 4) (.vs 5 3 (.cons (.lit 0) .nil)))))))
(.leaf (.vs 0 2 (.cons (.lit 0) (.cons (.lit 0) (.consb (.bvar 4) (.cons (.var 5) (.cons (.lit 0) (.vs 7 2 .nil)))))))))
(.br (.eq (.var 0) (.lit 4))
(.leaf (.cons (.var 0) (.cons (.lit 0) (.cons (.lit 0) (.cons (.lit 0) (.consb (.tt false) (.cons (.lit 0) (.cons (.lit 0) (.cons (.var 7) (.cons (.lit 0) .nil))))))))))
(.br (.eq (.var 0) (.lit 5))
(.leaf (.cons (.var 0) (.cons (.lit 0) (.cons (.lit 0) (.cons (.lit 0) (.consb (.tt false) (.cons (.lit 0) (.cons (.lit 0) (.cons (.lit 0) (.cons (.var 8) .nil))))))))))
(.leaf (.cons (.var 0) (.cons (.lit 0) (.cons (.lit 0) (.cons (.lit 0) (.consb (.tt false) (.cons (.lit 0) (.cons (.lit 0) (.cons (.lit 0) (.cons (.lit 0) .nil))))))))))))))))
def sP_jfields : Spec := ⟨fun k => match k with | _ => fun _ => [], fun k => match k with | _ => fun _ => True⟩
set_option maxRecDepth 100000 in
theorem sR_jfields : treeIs tys_LiK [] [] [] [] 200 Try.f74 [.agg kIns] [.agg kIns] false [.int .i8, .int .i8, .int .i8, .int .i8, .bool, .int .i8, .int .i8, .int .i64, .int .i64] sT_jfields := ⟨by kernel_rfl, by kernel_rfl, by kernel_rfl⟩
set_option maxRecDepth 100000 in
set_option maxHeartbeats 8000000 in
theorem sX_jfields (x : Ins) (hx : Ins.ok x) (ρ : Env) (g : varsD ρ 0 [.int .i8, .int .i8, .int .i8, .int .i8, .bool, .int .i8, .int .i8, .int .i64, .int .i64] = [.z x.k, .z x.op, .z x.w, .z x.sz, .z (b2i x.br), .z x.d, .z x.s, .z x.off, .z x.imm]) : sT_jfields.asks sP_jfields (fun ρ e => e.D ρ = sF_jfields [.z x.k, .z x.op, .z x.w, .z x.sz, .z (b2i x.br), .z x.d, .z x.s, .z x.off, .z x.imm]) ρ fun _ _ => False := by
  simp only [varsD, varD, List.cons.injEq, Dt.z.injEq, Dt.l.injEq, b2i_eq_iff, Nat.reduceAdd, and_true] at g
  simp only [sT_jfields, sP_jfields, sF_jfields, sV_jfields, Tr.asks, upd_same, okDs, okD, eqs, E.I, E.B, E.L, E.R, E.D, E.vs, dI, dB, dL, varD, varsD, List.getElem?_cons_zero, List.getElem?_cons_succ, List.cons_append, List.nil_append, Nat.zero_add, Nat.add_zero, Nat.reduceAdd, and_true, true_and, b2i_one, -eq_self, Ins.eta, Prog.eta, insAt_mk, g]
  refine ⟨fun c0 => ?_, fun c0 => ?_⟩
  refine ⟨fun c1 => ?_, fun c1 => ?_⟩
  refine ⟨fun c2 => ?_, fun c2 => ?_⟩
  · (unfold jfields; simp_all)
  · (unfold jfields; simp_all)
  refine ⟨fun c3 => ?_, fun c3 => ?_⟩
  · (unfold jfields; simp_all)
  · (unfold jfields; simp_all)
  refine ⟨fun c4 => ?_, fun c4 => ?_⟩
  · (unfold jfields; simp_all)
  refine ⟨fun c5 => ?_, fun c5 => ?_⟩
  · (unfold jfields; simp_all)
  refine ⟨fun c6 => ?_, fun c6 => ?_⟩
  refine ⟨fun c7 => ?_, fun c7 => ?_⟩
  · (unfold jfields; simp_all)
  · (unfold jfields; simp_all)
  refine ⟨fun c8 => ?_, fun c8 => ?_⟩
  · (unfold jfields; simp_all)
  refine ⟨fun c9 => ?_, fun c9 => ?_⟩
  · (unfold jfields; simp_all)
  · (unfold jfields; simp_all)
theorem sK_jfields {sp : Spec} {key : Nat} (hF : sp.F key = sF_jfields) (hP : sp.pre key = fun _ => True := by rfl) : SmOk Try.prog sp (sM_jfields key) :=
  fun_ok (s := sM_jfields key) hF hP (by kernel_rfl) tysok_LiK (sm0) Try.func74 fn0 sR_jfields (.inl rfl) (fun x0 gx0 x1 gx1 x2 gx2 x3 gx3 x4 x5 gx5 x6 gx6 x7 gx7 x8 gx8 hp ρ g => sX_jfields ⟨x0, x1, x2, x3, x4, x5, x6, x7, x8⟩ ⟨gx0, gx1, gx2, gx3, gx5, gx6, gx7, gx8⟩ ρ g)
def sM_jmay (key : Nat) : Sm := ⟨56, key, [.agg kIns], [.one .bool], false⟩
def sV_jmay (x : Ins) : List Dt := [.z (b2i (imay x))]
def sF_jmay : List Dt → List Dt
  | [.z x0, .z x1, .z x2, .z x3, .z x4, .z x5, .z x6, .z x7, .z x8] => sV_jmay ⟨x0, x1, x2, x3, (x4 == 1), x5, x6, x7, x8⟩
  | _ => []
def sT_jmay : Tr :=
(.br (.lt (.var 0) (.lit 0))
(.leaf (.consb (.tt false) .nil))
(.br (.lt (.lit 6) (.var 0))
(.leaf (.consb (.tt false) .nil))
(.call 1 (kIns) (.vs 0 4 (.consb (.bvar 4) (.vs 5 4 .nil))) 9
(.br (.eq (.var 0) (.var 9))
(.br (.eq (.var 1) (.var 10))
(.br (.eq (.var 2) (.var 11))
(.br (.eq (.var 3) (.var 12))
(.br (.beq (.bvar 4) (.bvar 13))
(.br (.eq (.var 5) (.var 14))
(.br (.eq (.var 6) (.var 15))
(.br (.eq (.var 7) (.var 16))
(.br (.eq (.var 8) (.var 17))
(.br (.lt (.var 5) (.lit 0))
(.leaf (.consb (.tt false) .nil))
(.br (.lt (.lit 10) (.var 5))
(.leaf (.consb (.tt false) .nil))
(.br (.lt (.var 6) (.lit 0))
(.leaf (.consb (.tt false) .nil))
(.br (.lt (.lit 10) (.var 6))
(.leaf (.consb (.tt false) .nil))
(.br (.lt (.var 7) (.lit (-32768)))
(.leaf (.consb (.tt false) .nil))
(.br (.lt (.var 7) (.lit 32768))
(.br (.lt (.var 8) (.lit (-2147483648)))
(.leaf (.consb (.tt false) .nil))
(.br (.lt (.var 8) (.lit 2147483648))
(.br (.eq (.var 0) (.lit 0))
(.br (.lt (.var 1) (.lit 0))
(.leaf (.consb (.tt false) .nil))
(.br (.lt (.lit 12) (.var 1))
(.leaf (.consb (.tt false) .nil))
(.br (.eq (.var 2) (.lit 32))
(.leaf (.consb (.lt (.var 5) (.lit 10)) .nil))
(.br (.eq (.var 2) (.lit 64))
(.leaf (.consb (.lt (.var 5) (.lit 10)) .nil))
(.leaf (.consb (.tt false) .nil))))))
(.br (.eq (.var 0) (.lit 1))
(.call 0 ([.bool]) (.cons (.var 3) .nil) 18
(.br (.bvar 18)
(.leaf (.consb (.lt (.var 5) (.lit 10)) .nil))
(.leaf (.consb (.tt false) .nil))))
(.br (.eq (.var 0) (.lit 2))
(.call 0 ([.bool]) (.cons (.var 3) .nil) 18
(.leaf (.consb (.bvar 18) .nil)))
(.br (.eq (.var 0) (.lit 3))
(.br (.lt (.var 1) (.lit 0))
(.leaf (.consb (.tt false) .nil))
(.leaf (.consb (.not (.lt (.lit 10) (.var 1))) .nil)))
(.br (.eq (.var 0) (.lit 5))
(.br (.lt (.var 8) (.lit 0))
(.leaf (.consb (.tt false) .nil))
(.leaf (.consb (.lt (.var 8) (.lit 16)) .nil)))
(.leaf (.consb (.tt true) .nil)))))))
(.leaf (.consb (.tt false) .nil))))
(.leaf (.consb (.tt false) .nil))))))))
(.leaf (.consb (.tt false) .nil)))
(.leaf (.consb (.tt false) .nil)))
(.leaf (.consb (.tt false) .nil)))
(.leaf (.consb (.tt false) .nil)))
(.leaf (.consb (.tt false) .nil)))
(.leaf (.consb (.tt false) .nil)))
(.leaf (.consb (.tt false) .nil)))
(.leaf (.consb (.tt false) .nil)))
(.leaf (.consb (.tt false) .nil))))))
def sP_jmay : Spec := ⟨fun k => match k with | 0 => sF_jsz | 1 => sF_jfields | _ => fun _ => [], fun k => match k with | _ => fun _ => True⟩
set_option maxRecDepth 100000 in
theorem sR_jmay : treeIs tys_LiK [sM_jsz 0, sM_jfields 1] [] [] [] 200 Try.f56 [.agg kIns] [.one .bool] false [.int .i8, .int .i8, .int .i8, .int .i8, .bool, .int .i8, .int .i8, .int .i64, .int .i64] sT_jmay := ⟨by kernel_rfl, by kernel_rfl, by kernel_rfl⟩
set_option maxRecDepth 100000 in
set_option maxHeartbeats 8000000 in
theorem sX_jmay (x : Ins) (hx : Ins.ok x) (ρ : Env) (g : varsD ρ 0 [.int .i8, .int .i8, .int .i8, .int .i8, .bool, .int .i8, .int .i8, .int .i64, .int .i64] = [.z x.k, .z x.op, .z x.w, .z x.sz, .z (b2i x.br), .z x.d, .z x.s, .z x.off, .z x.imm]) : sT_jmay.asks sP_jmay (fun ρ e => e.D ρ = sF_jmay [.z x.k, .z x.op, .z x.w, .z x.sz, .z (b2i x.br), .z x.d, .z x.s, .z x.off, .z x.imm]) ρ fun _ _ => False := by
  simp only [varsD, varD, List.cons.injEq, Dt.z.injEq, Dt.l.injEq, b2i_eq_iff, Nat.reduceAdd, and_true] at g
  simp only [sT_jmay, sP_jmay, kIns, sF_jsz, sF_jfields, sV_jsz, sV_jfields, sF_jmay, sV_jmay, Tr.asks, upd_same, okDs, okD, eqs, E.I, E.B, E.L, E.R, E.D, E.vs, dI, dB, dL, varD, varsD, List.getElem?_cons_zero, List.getElem?_cons_succ, List.cons_append, List.nil_append, Nat.zero_add, Nat.add_zero, Nat.reduceAdd, and_true, true_and, b2i_one, -eq_self, Ins.eta, Prog.eta, insAt_mk, g]
  refine ⟨fun c0 => ?_, fun c0 => ?_⟩
  · simp only [imay_jm, jm, jsame, c0, Bool.not_true, Bool.not_false, Bool.true_and, Bool.and_true, Bool.false_and, Bool.and_false, Bool.true_or, Bool.false_or, Bool.or_true, Bool.or_false] <;> simp only [jkind, c0, reduceIte, Int.reduceEq, Bool.not_true, Bool.not_false, Bool.true_and, Bool.and_true, Bool.false_and, Bool.and_false, Bool.true_or, Bool.false_or, Bool.or_true, Bool.or_false]
  refine ⟨fun c1 => ?_, fun c1 => ?_⟩
  · simp only [imay_jm, jm, jsame, c0, c1, Bool.not_true, Bool.not_false, Bool.true_and, Bool.and_true, Bool.false_and, Bool.and_false, Bool.true_or, Bool.false_or, Bool.or_true, Bool.or_false] <;> simp only [jkind, c0, c1, reduceIte, Int.reduceEq, Bool.not_true, Bool.not_false, Bool.true_and, Bool.and_true, Bool.false_and, Bool.and_false, Bool.true_or, Bool.false_or, Bool.or_true, Bool.or_false]
  intro e; (try simp only [e, Ins.eta, Prog.eta, insAt_mk, -eq_self]); clear e
  refine ⟨fun c2 => ?_, fun c2 => ?_⟩
  refine ⟨fun c3 => ?_, fun c3 => ?_⟩
  refine ⟨fun c4 => ?_, fun c4 => ?_⟩
  refine ⟨fun c5 => ?_, fun c5 => ?_⟩
  refine ⟨fun c6 => ?_, fun c6 => ?_⟩
  refine ⟨fun c7 => ?_, fun c7 => ?_⟩
  refine ⟨fun c8 => ?_, fun c8 => ?_⟩
  refine ⟨fun c9 => ?_, fun c9 => ?_⟩
  refine ⟨fun c10 => ?_, fun c10 => ?_⟩
  refine ⟨fun c11 => ?_, fun c11 => ?_⟩
  · simp only [imay_jm, jm, jsame, c0, c1, c2, c3, c4, c5, c6, c7, c8, c9, c10, c11, Bool.not_true, Bool.not_false, Bool.true_and, Bool.and_true, Bool.false_and, Bool.and_false, Bool.true_or, Bool.false_or, Bool.or_true, Bool.or_false] <;> simp only [jkind, c8, c9, c10, c11, reduceIte, Int.reduceEq, Bool.not_true, Bool.not_false, Bool.true_and, Bool.and_true, Bool.false_and, Bool.and_false, Bool.true_or, Bool.false_or, Bool.or_true, Bool.or_false]
  refine ⟨fun c12 => ?_, fun c12 => ?_⟩
  · simp only [imay_jm, jm, jsame, c0, c1, c2, c3, c4, c5, c6, c7, c8, c9, c10, c11, c12, Bool.not_true, Bool.not_false, Bool.true_and, Bool.and_true, Bool.false_and, Bool.and_false, Bool.true_or, Bool.false_or, Bool.or_true, Bool.or_false] <;> simp only [jkind, c9, c10, c11, c12, reduceIte, Int.reduceEq, Bool.not_true, Bool.not_false, Bool.true_and, Bool.and_true, Bool.false_and, Bool.and_false, Bool.true_or, Bool.false_or, Bool.or_true, Bool.or_false]
  refine ⟨fun c13 => ?_, fun c13 => ?_⟩
  · simp only [imay_jm, jm, jsame, c0, c1, c2, c3, c4, c5, c6, c7, c8, c9, c10, c11, c12, c13, Bool.not_true, Bool.not_false, Bool.true_and, Bool.and_true, Bool.false_and, Bool.and_false, Bool.true_or, Bool.false_or, Bool.or_true, Bool.or_false] <;> simp only [jkind, c10, c11, c12, c13, reduceIte, Int.reduceEq, Bool.not_true, Bool.not_false, Bool.true_and, Bool.and_true, Bool.false_and, Bool.and_false, Bool.true_or, Bool.false_or, Bool.or_true, Bool.or_false]
  refine ⟨fun c14 => ?_, fun c14 => ?_⟩
  · simp only [imay_jm, jm, jsame, c0, c1, c2, c3, c4, c5, c6, c7, c8, c9, c10, c11, c12, c13, c14, Bool.not_true, Bool.not_false, Bool.true_and, Bool.and_true, Bool.false_and, Bool.and_false, Bool.true_or, Bool.false_or, Bool.or_true, Bool.or_false] <;> simp only [jkind, c11, c12, c13, c14, reduceIte, Int.reduceEq, Bool.not_true, Bool.not_false, Bool.true_and, Bool.and_true, Bool.false_and, Bool.and_false, Bool.true_or, Bool.false_or, Bool.or_true, Bool.or_false]
  refine ⟨fun c15 => ?_, fun c15 => ?_⟩
  · simp only [imay_jm, jm, jsame, c0, c1, c2, c3, c4, c5, c6, c7, c8, c9, c10, c11, c12, c13, c14, c15, Bool.not_true, Bool.not_false, Bool.true_and, Bool.and_true, Bool.false_and, Bool.and_false, Bool.true_or, Bool.false_or, Bool.or_true, Bool.or_false] <;> simp only [jkind, c12, c13, c14, c15, reduceIte, Int.reduceEq, Bool.not_true, Bool.not_false, Bool.true_and, Bool.and_true, Bool.false_and, Bool.and_false, Bool.true_or, Bool.false_or, Bool.or_true, Bool.or_false]
  refine ⟨fun c16 => ?_, fun c16 => ?_⟩
  refine ⟨fun c17 => ?_, fun c17 => ?_⟩
  · simp only [imay_jm, jm, jsame, c0, c1, c2, c3, c4, c5, c6, c7, c8, c9, c10, c11, c12, c13, c14, c15, c16, c17, Bool.not_true, Bool.not_false, Bool.true_and, Bool.and_true, Bool.false_and, Bool.and_false, Bool.true_or, Bool.false_or, Bool.or_true, Bool.or_false] <;> simp only [jkind, c14, c15, c16, c17, reduceIte, Int.reduceEq, Bool.not_true, Bool.not_false, Bool.true_and, Bool.and_true, Bool.false_and, Bool.and_false, Bool.true_or, Bool.false_or, Bool.or_true, Bool.or_false]
  refine ⟨fun c18 => ?_, fun c18 => ?_⟩
  refine ⟨fun c19 => ?_, fun c19 => ?_⟩
  refine ⟨fun c20 => ?_, fun c20 => ?_⟩
  · simp only [imay_jm, jm, jsame, c0, c1, c2, c3, c4, c5, c6, c7, c8, c9, c10, c11, c12, c13, c14, c15, c16, c17, c18, c19, c20, Bool.not_true, Bool.not_false, Bool.true_and, Bool.and_true, Bool.false_and, Bool.and_false, Bool.true_or, Bool.false_or, Bool.or_true, Bool.or_false] <;> simp only [jkind, eqI c19, c17, c18, c19, c20, reduceIte, Int.reduceEq, Bool.not_true, Bool.not_false, Bool.true_and, Bool.and_true, Bool.false_and, Bool.and_false, Bool.true_or, Bool.false_or, Bool.or_true, Bool.or_false]
  refine ⟨fun c21 => ?_, fun c21 => ?_⟩
  · simp only [imay_jm, jm, jsame, c0, c1, c2, c3, c4, c5, c6, c7, c8, c9, c10, c11, c12, c13, c14, c15, c16, c17, c18, c19, c20, c21, Bool.not_true, Bool.not_false, Bool.true_and, Bool.and_true, Bool.false_and, Bool.and_false, Bool.true_or, Bool.false_or, Bool.or_true, Bool.or_false] <;> simp only [jkind, eqI c19, c18, c19, c20, c21, reduceIte, Int.reduceEq, Bool.not_true, Bool.not_false, Bool.true_and, Bool.and_true, Bool.false_and, Bool.and_false, Bool.true_or, Bool.false_or, Bool.or_true, Bool.or_false]
  refine ⟨fun c22 => ?_, fun c22 => ?_⟩
  · simp only [imay_jm, jm, jsame, c0, c1, c2, c3, c4, c5, c6, c7, c8, c9, c10, c11, c12, c13, c14, c15, c16, c17, c18, c19, c20, c21, c22, Bool.not_true, Bool.not_false, Bool.true_and, Bool.and_true, Bool.false_and, Bool.and_false, Bool.true_or, Bool.false_or, Bool.or_true, Bool.or_false] <;> simp only [jkind, eqI c19, c19, c20, c21, c22, reduceIte, Int.reduceEq, Bool.not_true, Bool.not_false, Bool.true_and, Bool.and_true, Bool.false_and, Bool.and_false, Bool.true_or, Bool.false_or, Bool.or_true, Bool.or_false]
  refine ⟨fun c23 => ?_, fun c23 => ?_⟩
  · simp only [imay_jm, jm, jsame, c0, c1, c2, c3, c4, c5, c6, c7, c8, c9, c10, c11, c12, c13, c14, c15, c16, c17, c18, c19, c20, c21, c22, c23, Bool.not_true, Bool.not_false, Bool.true_and, Bool.and_true, Bool.false_and, Bool.and_false, Bool.true_or, Bool.false_or, Bool.or_true, Bool.or_false] <;> simp only [jkind, eqI c19, c20, c21, c22, c23, reduceIte, Int.reduceEq, Bool.not_true, Bool.not_false, Bool.true_and, Bool.and_true, Bool.false_and, Bool.and_false, Bool.true_or, Bool.false_or, Bool.or_true, Bool.or_false]
  · simp only [imay_jm, jm, jsame, c0, c1, c2, c3, c4, c5, c6, c7, c8, c9, c10, c11, c12, c13, c14, c15, c16, c17, c18, c19, c20, c21, c22, c23, Bool.not_true, Bool.not_false, Bool.true_and, Bool.and_true, Bool.false_and, Bool.and_false, Bool.true_or, Bool.false_or, Bool.or_true, Bool.or_false] <;> simp only [jkind, eqI c19, c20, c21, c22, c23, reduceIte, Int.reduceEq, Bool.not_true, Bool.not_false, Bool.true_and, Bool.and_true, Bool.false_and, Bool.and_false, Bool.true_or, Bool.false_or, Bool.or_true, Bool.or_false]
  refine ⟨fun c24 => ?_, fun c24 => ?_⟩
  intro e; (try simp only [e, Ins.eta, Prog.eta, insAt_mk, -eq_self]); clear e
  refine ⟨fun c25 => ?_, fun c25 => ?_⟩
  · simp only [imay_jm, jm, jsame, c0, c1, c2, c3, c4, c5, c6, c7, c8, c9, c10, c11, c12, c13, c14, c15, c16, c17, c18, c19, c24, c25, Bool.not_true, Bool.not_false, Bool.true_and, Bool.and_true, Bool.false_and, Bool.and_false, Bool.true_or, Bool.false_or, Bool.or_true, Bool.or_false] <;> simp only [jkind, neI c19, eqI c24, c18, c19, c24, c25, reduceIte, Int.reduceEq, Bool.not_true, Bool.not_false, Bool.true_and, Bool.and_true, Bool.false_and, Bool.and_false, Bool.true_or, Bool.false_or, Bool.or_true, Bool.or_false]
  · simp only [imay_jm, jm, jsame, c0, c1, c2, c3, c4, c5, c6, c7, c8, c9, c10, c11, c12, c13, c14, c15, c16, c17, c18, c19, c24, c25, Bool.not_true, Bool.not_false, Bool.true_and, Bool.and_true, Bool.false_and, Bool.and_false, Bool.true_or, Bool.false_or, Bool.or_true, Bool.or_false] <;> simp only [jkind, neI c19, eqI c24, c18, c19, c24, c25, reduceIte, Int.reduceEq, Bool.not_true, Bool.not_false, Bool.true_and, Bool.and_true, Bool.false_and, Bool.and_false, Bool.true_or, Bool.false_or, Bool.or_true, Bool.or_false]
  refine ⟨fun c26 => ?_, fun c26 => ?_⟩
  intro e; (try simp only [e, Ins.eta, Prog.eta, insAt_mk, -eq_self]); clear e
  · simp only [imay_jm, jm, jsame, c0, c1, c2, c3, c4, c5, c6, c7, c8, c9, c10, c11, c12, c13, c14, c15, c16, c17, c18, c19, c24, c26, Bool.not_true, Bool.not_false, Bool.true_and, Bool.and_true, Bool.false_and, Bool.and_false, Bool.true_or, Bool.false_or, Bool.or_true, Bool.or_false] <;> simp only [jkind, neI c19, neI c24, eqI c26, c18, c19, c24, c26, reduceIte, Int.reduceEq, Bool.not_true, Bool.not_false, Bool.true_and, Bool.and_true, Bool.false_and, Bool.and_false, Bool.true_or, Bool.false_or, Bool.or_true, Bool.or_false]
  refine ⟨fun c27 => ?_, fun c27 => ?_⟩
  refine ⟨fun c28 => ?_, fun c28 => ?_⟩
  · simp only [imay_jm, jm, jsame, c0, c1, c2, c3, c4, c5, c6, c7, c8, c9, c10, c11, c12, c13, c14, c15, c16, c17, c18, c19, c24, c26, c27, c28, Bool.not_true, Bool.not_false, Bool.true_and, Bool.and_true, Bool.false_and, Bool.and_false, Bool.true_or, Bool.false_or, Bool.or_true, Bool.or_false] <;> simp only [jkind, neI c19, neI c24, neI c26, eqI c27, c24, c26, c27, c28, reduceIte, Int.reduceEq, Bool.not_true, Bool.not_false, Bool.true_and, Bool.and_true, Bool.false_and, Bool.and_false, Bool.true_or, Bool.false_or, Bool.or_true, Bool.or_false]
  · simp only [imay_jm, jm, jsame, c0, c1, c2, c3, c4, c5, c6, c7, c8, c9, c10, c11, c12, c13, c14, c15, c16, c17, c18, c19, c24, c26, c27, c28, Bool.not_true, Bool.not_false, Bool.true_and, Bool.and_true, Bool.false_and, Bool.and_false, Bool.true_or, Bool.false_or, Bool.or_true, Bool.or_false] <;> simp only [jkind, neI c19, neI c24, neI c26, eqI c27, c24, c26, c27, c28, reduceIte, Int.reduceEq, Bool.not_true, Bool.not_false, Bool.true_and, Bool.and_true, Bool.false_and, Bool.and_false, Bool.true_or, Bool.false_or, Bool.or_true, Bool.or_false]
  refine ⟨fun c29 => ?_, fun c29 => ?_⟩
  refine ⟨fun c30 => ?_, fun c30 => ?_⟩
  · simp only [imay_jm, jm, jsame, c0, c1, c2, c3, c4, c5, c6, c7, c8, c9, c10, c11, c12, c13, c14, c15, c16, c17, c18, c19, c24, c26, c27, c29, c30, Bool.not_true, Bool.not_false, Bool.true_and, Bool.and_true, Bool.false_and, Bool.and_false, Bool.true_or, Bool.false_or, Bool.or_true, Bool.or_false] <;> simp only [jkind, neI c19, neI c24, neI c26, neI c27, eqI c29, c26, c27, c29, c30, reduceIte, Int.reduceEq, Bool.not_true, Bool.not_false, Bool.true_and, Bool.and_true, Bool.false_and, Bool.and_false, Bool.true_or, Bool.false_or, Bool.or_true, Bool.or_false]
  · simp only [imay_jm, jm, jsame, c0, c1, c2, c3, c4, c5, c6, c7, c8, c9, c10, c11, c12, c13, c14, c15, c16, c17, c18, c19, c24, c26, c27, c29, c30, Bool.not_true, Bool.not_false, Bool.true_and, Bool.and_true, Bool.false_and, Bool.and_false, Bool.true_or, Bool.false_or, Bool.or_true, Bool.or_false] <;> simp only [jkind, neI c19, neI c24, neI c26, neI c27, eqI c29, c26, c27, c29, c30, reduceIte, Int.reduceEq, Bool.not_true, Bool.not_false, Bool.true_and, Bool.and_true, Bool.false_and, Bool.and_false, Bool.true_or, Bool.false_or, Bool.or_true, Bool.or_false]
  · simp only [imay_jm, jm, jsame, c0, c1, c2, c3, c4, c5, c6, c7, c8, c9, c10, c11, c12, c13, c14, c15, c16, c17, c18, c19, c24, c26, c27, c29, Bool.not_true, Bool.not_false, Bool.true_and, Bool.and_true, Bool.false_and, Bool.and_false, Bool.true_or, Bool.false_or, Bool.or_true, Bool.or_false] <;> simp only [jkind, neI c19, neI c24, neI c26, neI c27, neI c29, c24, c26, c27, c29, reduceIte, Int.reduceEq, Bool.not_true, Bool.not_false, Bool.true_and, Bool.and_true, Bool.false_and, Bool.and_false, Bool.true_or, Bool.false_or, Bool.or_true, Bool.or_false]
  · simp only [imay_jm, jm, jsame, c0, c1, c2, c3, c4, c5, c6, c7, c8, c9, c10, c11, c12, c13, c14, c15, c16, c17, c18, Bool.not_true, Bool.not_false, Bool.true_and, Bool.and_true, Bool.false_and, Bool.and_false, Bool.true_or, Bool.false_or, Bool.or_true, Bool.or_false] <;> simp only [jkind, c15, c16, c17, c18, reduceIte, Int.reduceEq, Bool.not_true, Bool.not_false, Bool.true_and, Bool.and_true, Bool.false_and, Bool.and_false, Bool.true_or, Bool.false_or, Bool.or_true, Bool.or_false]
  · simp only [imay_jm, jm, jsame, c0, c1, c2, c3, c4, c5, c6, c7, c8, c9, c10, c11, c12, c13, c14, c15, c16, Bool.not_true, Bool.not_false, Bool.true_and, Bool.and_true, Bool.false_and, Bool.and_false, Bool.true_or, Bool.false_or, Bool.or_true, Bool.or_false] <;> simp only [jkind, c13, c14, c15, c16, reduceIte, Int.reduceEq, Bool.not_true, Bool.not_false, Bool.true_and, Bool.and_true, Bool.false_and, Bool.and_false, Bool.true_or, Bool.false_or, Bool.or_true, Bool.or_false]
  · simp only [imay_jm, jm, jsame, c0, c1, c2, c3, c4, c5, c6, c7, c8, c9, c10, Bool.not_true, Bool.not_false, Bool.true_and, Bool.and_true, Bool.false_and, Bool.and_false, Bool.true_or, Bool.false_or, Bool.or_true, Bool.or_false] <;> simp only [jkind, c7, c8, c9, c10, reduceIte, Int.reduceEq, Bool.not_true, Bool.not_false, Bool.true_and, Bool.and_true, Bool.false_and, Bool.and_false, Bool.true_or, Bool.false_or, Bool.or_true, Bool.or_false]
  · simp only [imay_jm, jm, jsame, c0, c1, c2, c3, c4, c5, c6, c7, c8, c9, Bool.not_true, Bool.not_false, Bool.true_and, Bool.and_true, Bool.false_and, Bool.and_false, Bool.true_or, Bool.false_or, Bool.or_true, Bool.or_false] <;> simp only [jkind, c6, c7, c8, c9, reduceIte, Int.reduceEq, Bool.not_true, Bool.not_false, Bool.true_and, Bool.and_true, Bool.false_and, Bool.and_false, Bool.true_or, Bool.false_or, Bool.or_true, Bool.or_false]
  · simp only [imay_jm, jm, jsame, c0, c1, c2, c3, c4, c5, c6, c7, c8, Bool.not_true, Bool.not_false, Bool.true_and, Bool.and_true, Bool.false_and, Bool.and_false, Bool.true_or, Bool.false_or, Bool.or_true, Bool.or_false] <;> simp only [jkind, c5, c6, c7, c8, reduceIte, Int.reduceEq, Bool.not_true, Bool.not_false, Bool.true_and, Bool.and_true, Bool.false_and, Bool.and_false, Bool.true_or, Bool.false_or, Bool.or_true, Bool.or_false]
  · simp only [imay_jm, jm, jsame, c0, c1, c2, c3, c4, c5, c6, c7, Bool.not_true, Bool.not_false, Bool.true_and, Bool.and_true, Bool.false_and, Bool.and_false, Bool.true_or, Bool.false_or, Bool.or_true, Bool.or_false] <;> simp only [jkind, c4, c5, c6, c7, reduceIte, Int.reduceEq, Bool.not_true, Bool.not_false, Bool.true_and, Bool.and_true, Bool.false_and, Bool.and_false, Bool.true_or, Bool.false_or, Bool.or_true, Bool.or_false]
  · simp only [imay_jm, jm, jsame, c0, c1, c2, c3, c4, c5, c6, Bool.not_true, Bool.not_false, Bool.true_and, Bool.and_true, Bool.false_and, Bool.and_false, Bool.true_or, Bool.false_or, Bool.or_true, Bool.or_false] <;> simp only [jkind, c3, c4, c5, c6, reduceIte, Int.reduceEq, Bool.not_true, Bool.not_false, Bool.true_and, Bool.and_true, Bool.false_and, Bool.and_false, Bool.true_or, Bool.false_or, Bool.or_true, Bool.or_false]
  · simp only [imay_jm, jm, jsame, c0, c1, c2, c3, c4, c5, Bool.not_true, Bool.not_false, Bool.true_and, Bool.and_true, Bool.false_and, Bool.and_false, Bool.true_or, Bool.false_or, Bool.or_true, Bool.or_false] <;> simp only [jkind, c2, c3, c4, c5, reduceIte, Int.reduceEq, Bool.not_true, Bool.not_false, Bool.true_and, Bool.and_true, Bool.false_and, Bool.and_false, Bool.true_or, Bool.false_or, Bool.or_true, Bool.or_false]
  · simp only [imay_jm, jm, jsame, c0, c1, c2, c3, c4, Bool.not_true, Bool.not_false, Bool.true_and, Bool.and_true, Bool.false_and, Bool.and_false, Bool.true_or, Bool.false_or, Bool.or_true, Bool.or_false] <;> simp only [jkind, c1, c2, c3, c4, reduceIte, Int.reduceEq, Bool.not_true, Bool.not_false, Bool.true_and, Bool.and_true, Bool.false_and, Bool.and_false, Bool.true_or, Bool.false_or, Bool.or_true, Bool.or_false]
  · simp only [imay_jm, jm, jsame, c0, c1, c2, c3, Bool.not_true, Bool.not_false, Bool.true_and, Bool.and_true, Bool.false_and, Bool.and_false, Bool.true_or, Bool.false_or, Bool.or_true, Bool.or_false] <;> simp only [jkind, c0, c1, c2, c3, reduceIte, Int.reduceEq, Bool.not_true, Bool.not_false, Bool.true_and, Bool.and_true, Bool.false_and, Bool.and_false, Bool.true_or, Bool.false_or, Bool.or_true, Bool.or_false]
  · simp only [imay_jm, jm, jsame, c0, c1, c2, Bool.not_true, Bool.not_false, Bool.true_and, Bool.and_true, Bool.false_and, Bool.and_false, Bool.true_or, Bool.false_or, Bool.or_true, Bool.or_false] <;> simp only [jkind, c0, c1, c2, reduceIte, Int.reduceEq, Bool.not_true, Bool.not_false, Bool.true_and, Bool.and_true, Bool.false_and, Bool.and_false, Bool.true_or, Bool.false_or, Bool.or_true, Bool.or_false]
theorem sK_jmay {sp : Spec} {key : Nat} (hF : sp.F key = sF_jmay) (hP : sp.pre key = fun _ => True := by rfl) : SmOk Try.prog sp (sM_jmay key) :=
  fun_ok (s := sM_jmay key) hF hP (by kernel_rfl) tysok_LiK (smc (sK_jsz rfl) (smc (sK_jfields rfl) sm0)) Try.func56 fn0 sR_jmay (.inl rfl) (fun x0 gx0 x1 gx1 x2 gx2 x3 gx3 x4 x5 gx5 x6 gx6 x7 gx7 x8 gx8 hp ρ g => sX_jmay ⟨x0, x1, x2, x3, x4, x5, x6, x7, x8⟩ ⟨gx0, gx1, gx2, gx3, gx5, gx6, gx7, gx8⟩ ρ g)
def sM_jtgt (key : Nat) : Sm := ⟨53, key, [.one (.int .i64), .agg kIns], [.one (.int .i64), .one .bool], true⟩
def sV_jtgt (i : Int) (x : Ins) : List Dt := [.z ((itgt i x).1), .z (b2i ((itgt i x).2))]
def sF_jtgt : List Dt → List Dt
  | [.z x0, .z x1, .z x2, .z x3, .z x4, .z x5, .z x6, .z x7, .z x8, .z x9] => sV_jtgt x0 ⟨x1, x2, x3, x4, (x5 == 1), x6, x7, x8, x9⟩
  | _ => []
def sT_jtgt : Tr :=
(.br (.eq (.var 1) (.lit 3))
(.br (.lt (.var 0) (.lit (-1099511627776)))
(.leaf (.cons (.lit 0) (.consb (.tt false) .nil)))
(.br (.lt (.lit 1099511627776) (.var 0))
(.leaf (.cons (.lit 0) (.consb (.tt false) .nil)))
(.br (.lt (.var 8) (.lit (-1099511627776)))
(.leaf (.cons (.lit 0) (.consb (.tt false) .nil)))
(.br (.lt (.lit 1099511627776) (.var 8))
(.leaf (.cons (.lit 0) (.consb (.tt false) .nil)))
(.leaf (.cons (.bin .add .i64 (.bin .add .i64 (.var 0) (.lit 1)) (.var 8)) (.consb (.tt true) .nil)))))))
(.br (.eq (.var 1) (.lit 4))
(.br (.lt (.var 0) (.lit (-1099511627776)))
(.leaf (.cons (.lit 0) (.consb (.tt false) .nil)))
(.br (.lt (.lit 1099511627776) (.var 0))
(.leaf (.cons (.lit 0) (.consb (.tt false) .nil)))
(.br (.lt (.var 8) (.lit (-1099511627776)))
(.leaf (.cons (.lit 0) (.consb (.tt false) .nil)))
(.br (.lt (.lit 1099511627776) (.var 8))
(.leaf (.cons (.lit 0) (.consb (.tt false) .nil)))
(.leaf (.cons (.bin .add .i64 (.bin .add .i64 (.var 0) (.lit 1)) (.var 8)) (.consb (.tt true) .nil)))))))
(.leaf (.cons (.lit 0) (.consb (.tt false) .nil)))))
def sP_jtgt : Spec := ⟨fun k => match k with | _ => fun _ => [], fun k => match k with | _ => fun _ => True⟩
set_option maxRecDepth 100000 in
theorem sR_jtgt : treeIs tys_LiK [] [] [] [] 200 Try.f53 [.one (.int .i64), .agg kIns] [.one (.int .i64), .one .bool] true [.int .i64, .int .i8, .int .i8, .int .i8, .int .i8, .bool, .int .i8, .int .i8, .int .i64, .int .i64] sT_jtgt := ⟨by kernel_rfl, by kernel_rfl, by kernel_rfl⟩
set_option maxRecDepth 100000 in
set_option maxHeartbeats 8000000 in
theorem sX_jtgt (i : Int) (hi : inK .i64 i = true) (x : Ins) (hx : Ins.ok x) (ρ : Env) (g : varsD ρ 0 [.int .i64, .int .i8, .int .i8, .int .i8, .int .i8, .bool, .int .i8, .int .i8, .int .i64, .int .i64] = [.z i, .z x.k, .z x.op, .z x.w, .z x.sz, .z (b2i x.br), .z x.d, .z x.s, .z x.off, .z x.imm]) : sT_jtgt.asks sP_jtgt (fun ρ e => e.D ρ = sF_jtgt [.z i, .z x.k, .z x.op, .z x.w, .z x.sz, .z (b2i x.br), .z x.d, .z x.s, .z x.off, .z x.imm]) ρ fun _ _ => False := by
  simp only [varsD, varD, List.cons.injEq, Dt.z.injEq, Dt.l.injEq, b2i_eq_iff, Nat.reduceAdd, and_true] at g
  simp only [sT_jtgt, sP_jtgt, sF_jtgt, sV_jtgt, Tr.asks, upd_same, okDs, okD, eqs, E.I, E.B, E.L, E.R, E.D, E.vs, dI, dB, dL, varD, varsD, List.getElem?_cons_zero, List.getElem?_cons_succ, List.cons_append, List.nil_append, Nat.zero_add, Nat.add_zero, Nat.reduceAdd, and_true, true_and, b2i_one, -eq_self, Ins.eta, Prog.eta, insAt_mk, g]
  refine ⟨fun c0 => ?_, fun c0 => ?_⟩
  refine ⟨fun c1 => ?_, fun c1 => ?_⟩
  · rw [itgt_i (by have := of_decide_eq_true c1; simp; omega)]; try rfl
  refine ⟨fun c2 => ?_, fun c2 => ?_⟩
  · rw [itgt_i (by have := of_decide_eq_true c2; simp; omega)]; try rfl
  refine ⟨fun c3 => ?_, fun c3 => ?_⟩
  · rw [itgt_o (by have := of_decide_eq_true c3; simp; omega)]; try rfl
  refine ⟨fun c4 => ?_, fun c4 => ?_⟩
  · rw [itgt_o (by have := of_decide_eq_true c4; simp; omega)]; try rfl
  · rw [itgt_y (.inl (eqI c0)) (by have q1 := of_decide_eq_false c1; have q2 := of_decide_eq_false c2; simp; omega) (by have q1 := of_decide_eq_false c3; have q2 := of_decide_eq_false c4; simp; omega)]; try rfl
  refine ⟨fun c5 => ?_, fun c5 => ?_⟩
  refine ⟨fun c6 => ?_, fun c6 => ?_⟩
  · rw [itgt_i (by have := of_decide_eq_true c6; simp; omega)]; try rfl
  refine ⟨fun c7 => ?_, fun c7 => ?_⟩
  · rw [itgt_i (by have := of_decide_eq_true c7; simp; omega)]; try rfl
  refine ⟨fun c8 => ?_, fun c8 => ?_⟩
  · rw [itgt_o (by have := of_decide_eq_true c8; simp; omega)]; try rfl
  refine ⟨fun c9 => ?_, fun c9 => ?_⟩
  · rw [itgt_o (by have := of_decide_eq_true c9; simp; omega)]; try rfl
  · rw [itgt_y (.inr (eqI c5)) (by have q1 := of_decide_eq_false c6; have q2 := of_decide_eq_false c7; simp; omega) (by have q1 := of_decide_eq_false c8; have q2 := of_decide_eq_false c9; simp; omega)]; try rfl
  · rw [itgt_k c0 c5]; try rfl
theorem sK_jtgt {sp : Spec} {key : Nat} (hF : sp.F key = sF_jtgt) (hP : sp.pre key = fun _ => True := by rfl) : SmOk Try.prog sp (sM_jtgt key) :=
  fun_ok (s := sM_jtgt key) hF hP (by kernel_rfl) tysok_LiK (sm0) Try.func53 fn0 sR_jtgt (.inl rfl) (fun x0 gx0 x1 gx1 x2 gx2 x3 gx3 x4 gx4 x5 x6 gx6 x7 gx7 x8 gx8 x9 gx9 hp ρ g => sX_jtgt x0 gx0 ⟨x1, x2, x3, x4, x5, x6, x7, x8, x9⟩ ⟨gx1, gx2, gx3, gx4, gx6, gx7, gx8, gx9⟩ ρ g)
def sM_jargs (key : Nat) : Sm := ⟨73, key, [.one (.int .i64)], [.one (.int .i64)], false⟩
def sV_jargs (n : Int) : List Dt := [.z (iargs n)]
def sF_jargs : List Dt → List Dt
  | [.z x0] => sV_jargs x0
  | _ => []
def sT_jargs : Tr :=
(.br (.lt (.var 0) (.lit 0))
(.leaf (.cons (.lit 0) .nil))
(.br (.lt (.var 0) (.lit 16))
(.leaf (.cons (.bin .rem .i64 (.var 0) (.lit 6)) .nil))
(.leaf (.cons (.lit 0) .nil))))
def sP_jargs : Spec := ⟨fun k => match k with | _ => fun _ => [], fun k => match k with | _ => fun _ => True⟩
set_option maxRecDepth 100000 in
theorem sR_jargs : treeIs tys_LiK [] [] [] [] 200 Try.f73 [.one (.int .i64)] [.one (.int .i64)] false [.int .i64] sT_jargs := ⟨by kernel_rfl, by kernel_rfl, by kernel_rfl⟩
set_option maxRecDepth 100000 in
set_option maxHeartbeats 8000000 in
theorem sX_jargs (n : Int) (hn : inK .i64 n = true) (ρ : Env) (g : varsD ρ 0 [.int .i64] = [.z n]) : sT_jargs.asks sP_jargs (fun ρ e => e.D ρ = sF_jargs [.z n]) ρ fun _ _ => False := by
  simp only [varsD, varD, List.cons.injEq, Dt.z.injEq, Dt.l.injEq, b2i_eq_iff, Nat.reduceAdd, and_true] at g
  simp only [sT_jargs, sP_jargs, sF_jargs, sV_jargs, Tr.asks, upd_same, okDs, okD, eqs, E.I, E.B, E.L, E.R, E.D, E.vs, dI, dB, dL, varD, varsD, List.getElem?_cons_zero, List.getElem?_cons_succ, List.cons_append, List.nil_append, Nat.zero_add, Nat.add_zero, Nat.reduceAdd, and_true, true_and, b2i_one, -eq_self, Ins.eta, Prog.eta, insAt_mk, g]
  refine ⟨fun c0 => ?_, fun c0 => ?_⟩
  · (unfold iargs; simp_all <;> omega)
  refine ⟨fun c1 => ?_, fun c1 => ?_⟩
  · (unfold iargs; simp_all <;> omega)
  · (unfold iargs; simp_all <;> omega)
theorem sK_jargs {sp : Spec} {key : Nat} (hF : sp.F key = sF_jargs) (hP : sp.pre key = fun _ => True := by rfl) : SmOk Try.prog sp (sM_jargs key) :=
  fun_ok (s := sM_jargs key) hF hP (by kernel_rfl) tysok_LiK (sm0) Try.func73 fn0 sR_jargs (.inl rfl) (fun x0 gx0 hp ρ g => sX_jargs x0 gx0 ρ g)
def sM_jbit (key : Nat) : Sm := ⟨57, key, [.one (.int .i8)], [.one (.int .i64)], false⟩
def sV_jbit (n : Int) : List Dt := [.z (jbit1 n)]
def sF_jbit : List Dt → List Dt
  | [.z x0] => sV_jbit x0
  | _ => []
def sT_jbit : Tr :=
(.leaf (.cons (.bin .shl .i64 (.lit 1) (.conv .u64 (.var 0))) .nil))
def sP_jbit : Spec := ⟨fun k => match k with | _ => fun _ => [], fun k => match k with | _ => fun _ => True⟩
set_option maxRecDepth 100000 in
theorem sR_jbit : treeIs tys_LiK [] [] [] [] 200 Try.f57 [.one (.int .i8)] [.one (.int .i64)] false [.int .i8] sT_jbit := ⟨by kernel_rfl, by kernel_rfl, by kernel_rfl⟩
set_option maxRecDepth 100000 in
set_option maxHeartbeats 8000000 in
theorem sX_jbit (n : Int) (hn : inK .i8 n = true) (ρ : Env) (g : varsD ρ 0 [.int .i8] = [.z n]) : sT_jbit.asks sP_jbit (fun ρ e => e.D ρ = sF_jbit [.z n]) ρ fun _ _ => False := by
  simp only [varsD, varD, List.cons.injEq, Dt.z.injEq, Dt.l.injEq, b2i_eq_iff, Nat.reduceAdd, and_true] at g
  simp only [sT_jbit, sP_jbit, sF_jbit, sV_jbit, Tr.asks, upd_same, okDs, okD, eqs, E.I, E.B, E.L, E.R, E.D, E.vs, dI, dB, dL, varD, varsD, List.getElem?_cons_zero, List.getElem?_cons_succ, List.cons_append, List.nil_append, Nat.zero_add, Nat.add_zero, Nat.reduceAdd, and_true, true_and, b2i_one, -eq_self, Ins.eta, Prog.eta, insAt_mk, g]
  · try rfl
theorem sK_jbit {sp : Spec} {key : Nat} (hF : sp.F key = sF_jbit) (hP : sp.pre key = fun _ => True := by rfl) : SmOk Try.prog sp (sM_jbit key) :=
  fun_ok (s := sM_jbit key) hF hP (by kernel_rfl) tysok_LiK (sm0) Try.func57 fn0 sR_jbit (.inl rfl) (fun x0 gx0 hp ρ g => sX_jbit x0 gx0 ρ g)
def sM_jwr (key : Nat) : Sm := ⟨32, key, [.agg kIns], [.one (.int .i64)], false⟩
def sV_jwr (x : Ins) : List Dt := [.z (vwr x)]
def sF_jwr : List Dt → List Dt
  | [.z x0, .z x1, .z x2, .z x3, .z x4, .z x5, .z x6, .z x7, .z x8] => sV_jwr ⟨x0, x1, x2, x3, (x4 == 1), x5, x6, x7, x8⟩
  | _ => []
def sT_jwr : Tr :=
(.call 0 ([.bool]) (.vs 0 4 (.consb (.bvar 4) (.vs 5 4 .nil))) 9
(.br (.bvar 9)
(.br (.eq (.var 0) (.lit 0))
(.call 1 ([.int .i64]) (.cons (.var 5) .nil) 10
(.leaf (.cons (.var 10) .nil)))
(.br (.eq (.var 0) (.lit 1))
(.call 1 ([.int .i64]) (.cons (.var 5) .nil) 10
(.leaf (.cons (.var 10) .nil)))
(.br (.eq (.var 0) (.lit 5))
(.leaf (.cons (.lit 63) .nil))
(.leaf (.cons (.lit 0) .nil)))))
(.leaf (.cons (.lit 0) .nil))))
def sP_jwr : Spec := ⟨fun k => match k with | 0 => sF_jmay | 1 => sF_jbit | _ => fun _ => [], fun k => match k with | _ => fun _ => True⟩
set_option maxRecDepth 100000 in
theorem sR_jwr : treeIs tys_LiK [sM_jmay 0, sM_jbit 1] [] [] [] 200 Try.f32 [.agg kIns] [.one (.int .i64)] false [.int .i8, .int .i8, .int .i8, .int .i8, .bool, .int .i8, .int .i8, .int .i64, .int .i64] sT_jwr := ⟨by kernel_rfl, by kernel_rfl, by kernel_rfl⟩
set_option maxRecDepth 100000 in
set_option maxHeartbeats 8000000 in
theorem sX_jwr (x : Ins) (hx : Ins.ok x) (ρ : Env) (g : varsD ρ 0 [.int .i8, .int .i8, .int .i8, .int .i8, .bool, .int .i8, .int .i8, .int .i64, .int .i64] = [.z x.k, .z x.op, .z x.w, .z x.sz, .z (b2i x.br), .z x.d, .z x.s, .z x.off, .z x.imm]) : sT_jwr.asks sP_jwr (fun ρ e => e.D ρ = sF_jwr [.z x.k, .z x.op, .z x.w, .z x.sz, .z (b2i x.br), .z x.d, .z x.s, .z x.off, .z x.imm]) ρ fun _ _ => False := by
  simp only [varsD, varD, List.cons.injEq, Dt.z.injEq, Dt.l.injEq, b2i_eq_iff, Nat.reduceAdd, and_true] at g
  simp only [sT_jwr, sP_jwr, sF_jmay, sF_jbit, sV_jmay, sV_jbit, sF_jwr, sV_jwr, Tr.asks, upd_same, okDs, okD, eqs, E.I, E.B, E.L, E.R, E.D, E.vs, dI, dB, dL, varD, varsD, List.getElem?_cons_zero, List.getElem?_cons_succ, List.cons_append, List.nil_append, Nat.zero_add, Nat.add_zero, Nat.reduceAdd, and_true, true_and, b2i_one, -eq_self, Ins.eta, Prog.eta, insAt_mk, g]
  intro e; (try simp only [e, Ins.eta, Prog.eta, insAt_mk, -eq_self]); clear e
  refine ⟨fun c0 => ?_, fun c0 => ?_⟩
  refine ⟨fun c1 => ?_, fun c1 => ?_⟩
  intro e; (try simp only [e, Ins.eta, Prog.eta, insAt_mk, -eq_self]); clear e
  · (have q := fun h => imay_d (x := x) h; unfold vwr; simp_all [jbit_eq])
  refine ⟨fun c2 => ?_, fun c2 => ?_⟩
  intro e; (try simp only [e, Ins.eta, Prog.eta, insAt_mk, -eq_self]); clear e
  · (have q := fun h => imay_d (x := x) h; unfold vwr; simp_all [jbit_eq])
  refine ⟨fun c3 => ?_, fun c3 => ?_⟩
  · (have q := fun h => imay_d (x := x) h; unfold vwr; simp_all [jbit_eq])
  · (have q := fun h => imay_d (x := x) h; unfold vwr; simp_all [jbit_eq])
  · (have q := fun h => imay_d (x := x) h; unfold vwr; simp_all [jbit_eq])
theorem sK_jwr {sp : Spec} {key : Nat} (hF : sp.F key = sF_jwr) (hP : sp.pre key = fun _ => True := by rfl) : SmOk Try.prog sp (sM_jwr key) :=
  fun_ok (s := sM_jwr key) hF hP (by kernel_rfl) tysok_LiK (smc (sK_jmay rfl) (smc (sK_jbit rfl) sm0)) Try.func32 fn0 sR_jwr (.inl rfl) (fun x0 gx0 x1 gx1 x2 gx2 x3 gx3 x4 x5 gx5 x6 gx6 x7 gx7 x8 gx8 hp ρ g => sX_jwr ⟨x0, x1, x2, x3, x4, x5, x6, x7, x8⟩ ⟨gx0, gx1, gx2, gx3, gx5, gx6, gx7, gx8⟩ ρ g)
end Go.Proofs.Ytmkaphfdgdkaoaa
