/- Contracts of Given of package bounds and of what it takes, by the symbolic run. -/
import Derived.Test.YtcfnglbcgkappaaGreatXbD
import Derived.Test.YtcfnglbcgkappaaGreatXbZ
import Derived.Test.YtcfnglbcgkappaaGreatProg
import Derived.Laws.Externs
set_option linter.unusedVariables false
set_option linter.unusedSimpArgs false
namespace Go.Proofs.YtcfnglbcgkappaaGreat
open Go.RowKit Go.ChangeShapes Go.WideShapes

def tys_XbE : List (Nat × TI) := [(2, ⟨false, 1, [.int .i64 (.lit 0)], [], none, some .i64, false, false, none, 8, false⟩),
 (22, ⟨false, 1, [.int .i8 (.lit 0)], [], none, some .i8, false, false, none, 1, false⟩),
 (23, ⟨false, 1, [.int .u64 (.lit 0)], [], none, some .u64, false, false, none, 8, false⟩),
 (25, ⟨true, 4, [.int .u64 (.lit 0), .int .u64 (.lit 0), .int .i64 (.lit 0), .int .i64 (.lit 0)], [(0, 23), (1, 23), (2, 2), (3, 2)], none, none, false, false, none, 32, false⟩),
 (79, ⟨true, 2, [.int .u64 (.lit 0), .int .u64 (.lit 0)], [(0, 23), (1, 23)], none, none, false, false, none, 16, false⟩),
 (81, ⟨true, 2, [.int .i64 (.lit 0), .int .i64 (.lit 0)], [(0, 2), (1, 2)], none, none, false, false, none, 16, false⟩)]
set_option maxRecDepth 100000 in
theorem tysck_XbE : (tys_XbE.all fun p => ckTI Tryz.prog p.1 p.2) = true := by kernel_rfl
theorem tysne_XbE : (tys_XbE.all fun p => !p.2.eqok) = true := by kernel_rfl
theorem tysok_XbE : ∀ t i, (t, i) ∈ tys_XbE → TIok Tryz.prog t i := by
  intro t i h
  have h1 := all_at (f := fun _ i => !i.eqok) tysne_XbE h
  exact TIok_of (all_at (f := ckTI Tryz.prog) tysck_XbE h) (fun he => by simp [he] at h1) (fun he => by simp [he] at h1)
def sM_bits (key : Nat) : Sm := ⟨66, key, [.one (.int .i8), .one (.int .i8), .one (.int .u64), .one (.int .u64)], [.one (.int .u64), .one (.int .i64)], true⟩
def sV_bits (op : Int) (l : Int) (x : Int) (y : Int) : List Dt := [.z (if okop op l = true then zdo op l x y else 0), .z (if okop op l = true then 0 else 2)]
def sF_bits : List Dt → List Dt
  | [.z x0, .z x1, .z x2, .z x3] => sV_bits x0 x1 x2 x3
  | _ => []
theorem sX_bits (op : Int) (hop : inK .i8 op = true) (l : Int) (hl : inK .i8 l = true) (x : Int) (hx : inK .u64 x = true) (y : Int) (hy : inK .u64 y = true) : (∀ w, Calls Tryz.prog 66 #[.int .i8 op, .int .i8 l, .int .u64 x, .int .u64 y] w fun e w' => e = .returned (.tuple #[.int .u64 (if okop op l = true then zdo op l x y else 0), .int .i64 (if okop op l = true then 0 else 2)]) ∧ Ext w w') ∧ valIn (.tuple #[.int .u64 (if okop op l = true then zdo op l x y else 0), .int .i64 (if okop op l = true then 0 else 2)]) = true := by
  have gx := inK_u64 hx
  have gy := inK_u64 hy
  cases hk : okop op l
  · refine ⟨fun w => (do_bad op l x y w ?_).mono ?_, by simp [valIn, partIn, cellIn]; decide⟩
    · unfold okop at hk
      rw [Bool.and_eq_false_iff, Bool.and_eq_false_iff] at hk
      rcases hk with (hk | hk) | hk
      · have := of_decide_eq_false hk
        simp; omega
      · have := of_decide_eq_false hk
        simp; omega
      · rw [hk]; simp
    · rintro e w' ⟨rfl, rfl⟩
      exact ⟨by simp, Ext.refl _⟩
  · unfold okop at hk
    simp only [Bool.and_eq_true, decide_eq_true_eq] at hk
    have hz := u64_inK (zdo_bd op l x y gx.1 gx.2 gy.1 gy.2)
    refine ⟨fun w => (do_any op l x y w gx.1 gx.2 gy.1 gy.2 hk.1.1 hk.1.2 hk.2).mono ?_, by simp [valIn, partIn, cellIn, hz]; decide⟩
    rintro e w' ⟨rfl, hx⟩
    exact ⟨by simp, hx⟩
theorem sK_bits {sp : Spec} {key : Nat} (hF : sp.F key = sF_bits) : SmOk Tryz.prog sp (sM_bits key) := by
  refine SmOk.pure hF rfl rfl fun xs vals w h => ?_
  obtain ⟨_, _, _, rfl, ⟨x0, rfl, rfl, gx0⟩, h⟩ := h
  obtain ⟨_, _, _, rfl, ⟨x1, rfl, rfl, gx1⟩, h⟩ := h
  obtain ⟨_, _, _, rfl, ⟨x2, rfl, rfl, gx2⟩, h⟩ := h
  obtain ⟨_, _, _, rfl, ⟨x3, rfl, rfl, gx3⟩, h⟩ := h
  obtain ⟨rfl, rfl⟩ := h
  have q := sX_bits x0 gx0 x1 gx1 x2 gx2 x3 gx3
  refine ⟨_, .inr ⟨run_enter Tryz.func66 (by kernel_rfl) (by kernel_rfl) _ w, q.1 w⟩, ?_, fun ρ v0 nid j he => ?_⟩
  · have q2 := q.2
    simp [valIn, partIn, cellIn] at q2
    simp [sM_bits, sF_bits, sV_bits, List.flatMap_cons, List.flatMap_nil, Sh.cks, List.append_nil, List.cons_append, List.nil_append, b2i_one, resIn, q2]
  · simp only [sM_bits, sF_bits, sV_bits, List.flatMap_cons, List.flatMap_nil, Sh.cks, List.append_nil, List.cons_append, List.nil_append, b2i_one, eqs, dI, dB, List.getElem?_cons_zero, List.getElem?_cons_succ, Nat.zero_add, Nat.add_zero, Nat.reduceAdd, and_true] at he
    simp [sM_bits, sF_bits, sV_bits, List.flatMap_cons, List.flatMap_nil, Sh.cks, List.append_nil, List.cons_append, List.nil_append, b2i_one, resVof, resParts, resCells, V.den, C.den, denL, den0, den0L, E.I, E.B, he]
def sM_rcut (key : Nat) : Sm := ⟨99, key, [.one (.int .u64), .one (.int .i8)], [.one (.int .u64)], false⟩
def sV_rcut (x : Int) (l : Int) : List Dt := [.z (zcut x l)]
def sF_rcut : List Dt → List Dt
  | [.z x0, .z x1] => sV_rcut x0 x1
  | _ => []
theorem sX_rcut (x : Int) (hx : inK .u64 x = true) (l : Int) (hl : inK .i8 l = true) : (∀ w, Calls Tryz.prog 99 #[.int .u64 x, .int .i8 l] w fun e w' => e = .returned (.int .u64 (zcut x l)) ∧ Ext w w') ∧ valIn (.int .u64 (zcut x l)) = true := by
  have gx := inK_u64 hx
  have hz := u64_inK (zcut_bd x l gx.1 gx.2)
  exact ⟨fun w => (rcut_any x l w gx.1 gx.2).mono (by rintro e w' ⟨rfl, rfl⟩; exact ⟨rfl, Ext.refl _⟩), hz⟩
theorem sK_rcut {sp : Spec} {key : Nat} (hF : sp.F key = sF_rcut) : SmOk Tryz.prog sp (sM_rcut key) := by
  refine SmOk.pure hF rfl rfl fun xs vals w h => ?_
  obtain ⟨_, _, _, rfl, ⟨x0, rfl, rfl, gx0⟩, h⟩ := h
  obtain ⟨_, _, _, rfl, ⟨x1, rfl, rfl, gx1⟩, h⟩ := h
  obtain ⟨rfl, rfl⟩ := h
  have q := sX_rcut x0 gx0 x1 gx1
  refine ⟨_, .inr ⟨run_enter Tryz.func99 (by kernel_rfl) (by kernel_rfl) _ w, q.1 w⟩, ?_, fun ρ v0 nid j he => ?_⟩
  · have q2 := q.2
    simp [valIn, partIn, cellIn] at q2
    simp [sM_rcut, sF_rcut, sV_rcut, List.flatMap_cons, List.flatMap_nil, Sh.cks, List.append_nil, List.cons_append, List.nil_append, b2i_one, resIn, q2]
  · simp only [sM_rcut, sF_rcut, sV_rcut, List.flatMap_cons, List.flatMap_nil, Sh.cks, List.append_nil, List.cons_append, List.nil_append, b2i_one, eqs, dI, dB, List.getElem?_cons_zero, List.getElem?_cons_succ, Nat.zero_add, Nat.add_zero, Nat.reduceAdd, and_true] at he
    simp [sM_rcut, sF_rcut, sV_rcut, List.flatMap_cons, List.flatMap_nil, Sh.cks, List.append_nil, List.cons_append, List.nil_append, b2i_one, resVof, resParts, resCells, V.den, C.den, denL, den0, den0L, E.I, E.B, he]
def sM_uwo (key : Nat) : Sm := ⟨90, key, [.agg kPu, .one (.int .u64)], [.agg kPu, .one .bool], true⟩
def sV_uwo (a : Pu) (v : Int) : List Dt := [.z (((⟨if (a.lo == v) = true ∧ (a.hi == v) = false then IntKind.u64.wrap (a.lo + 1) else a.lo, if (a.lo == v) = false ∧ (a.hi == v) = true then IntKind.u64.wrap (a.hi - 1) else a.hi⟩ : Pu)).lo), .z (((⟨if (a.lo == v) = true ∧ (a.hi == v) = false then IntKind.u64.wrap (a.lo + 1) else a.lo, if (a.lo == v) = false ∧ (a.hi == v) = true then IntKind.u64.wrap (a.hi - 1) else a.hi⟩ : Pu)).hi), .z (b2i ((!((a.lo == v) && (a.hi == v)))))]
def sF_uwo : List Dt → List Dt
  | [.z x0, .z x1, .z x2] => sV_uwo ⟨x0, x1⟩ x2
  | _ => []
def sT_uwo : Tr :=
(.br (.eq (.var 0) (.var 2))
(.br (.eq (.var 1) (.var 2))
(.leaf (.vs 0 2 (.consb (.tt false) .nil)))
(.leaf (.cons (.bin .add .u64 (.var 0) (.lit 1)) (.cons (.var 1) (.consb (.tt true) .nil)))))
(.br (.eq (.var 1) (.var 2))
(.leaf (.cons (.var 0) (.cons (.bin .sub .u64 (.var 1) (.lit 1)) (.consb (.tt true) .nil))))
(.leaf (.vs 0 2 (.consb (.tt true) .nil)))))
def sP_uwo : Spec := ⟨fun k => match k with | _ => fun _ => [], fun k => match k with | _ => fun _ => True⟩
set_option maxRecDepth 100000 in
theorem sR_uwo : treeIs tys_XbE [] [] [] 200 Tryz.f90 [.agg kPu, .one (.int .u64)] [.agg kPu, .one .bool] true [.int .u64, .int .u64, .int .u64] sT_uwo := ⟨by kernel_rfl, by kernel_rfl, by kernel_rfl⟩
set_option maxRecDepth 100000 in
set_option maxHeartbeats 8000000 in
theorem sX_uwo (a : Pu) (ha : Pu.ok a) (v : Int) (hv : inK .u64 v = true) (ρ : Env) (g : varsD ρ 0 [.int .u64, .int .u64, .int .u64] = [.z a.lo, .z a.hi, .z v]) : sT_uwo.asks sP_uwo (fun ρ e => e.D ρ = sF_uwo [.z a.lo, .z a.hi, .z v]) ρ fun _ _ => False := by
  simp only [varsD, varD, List.cons.injEq, Dt.z.injEq, Dt.l.injEq, b2i_eq_iff, Nat.reduceAdd, and_true] at g
  simp only [sT_uwo, sP_uwo, sF_uwo, sV_uwo, Tr.asks, upd_same, okDs, okD, eqs, E.I, E.B, E.L, E.R, E.D, E.vs, dI, dB, dL, varD, varsD, List.getElem?_cons_zero, List.getElem?_cons_succ, List.cons_append, List.nil_append, Nat.zero_add, Nat.add_zero, Nat.reduceAdd, and_true, true_and, b2i_one, -eq_self, Pu.eta, g]
  refine ⟨fun c0 => ?_, fun c0 => ?_⟩
  refine ⟨fun c1 => ?_, fun c1 => ?_⟩
  (simp_all [opI])
  (simp_all [opI])
  refine ⟨fun c2 => ?_, fun c2 => ?_⟩
  (simp_all [opI])
  (simp_all [opI])
theorem sK_uwo {sp : Spec} {key : Nat} (hF : sp.F key = sF_uwo) (hP : sp.pre key = fun _ => True := by rfl) : SmOk Tryz.prog sp (sM_uwo key) :=
  fun_ok (s := sM_uwo key) hF hP (by kernel_rfl) tysok_XbE (sm0) Tryz.func90 sR_uwo (.inl rfl) (fun x0 gx0 x1 gx1 x2 gx2 hp ρ g => sX_uwo ⟨x0, x1⟩ ⟨gx0, gx1⟩ x2 gx2 ρ g)
def sM_iwo (key : Nat) : Sm := ⟨91, key, [.agg kPi, .one (.int .i64)], [.agg kPi, .one .bool], true⟩
def sV_iwo (a : Pi) (v : Int) : List Dt := [.z (((⟨if (a.lo == v) = true ∧ (a.hi == v) = false then IntKind.i64.wrap (a.lo + 1) else a.lo, if (a.lo == v) = false ∧ (a.hi == v) = true then IntKind.i64.wrap (a.hi - 1) else a.hi⟩ : Pi)).lo), .z (((⟨if (a.lo == v) = true ∧ (a.hi == v) = false then IntKind.i64.wrap (a.lo + 1) else a.lo, if (a.lo == v) = false ∧ (a.hi == v) = true then IntKind.i64.wrap (a.hi - 1) else a.hi⟩ : Pi)).hi), .z (b2i ((!((a.lo == v) && (a.hi == v)))))]
def sF_iwo : List Dt → List Dt
  | [.z x0, .z x1, .z x2] => sV_iwo ⟨x0, x1⟩ x2
  | _ => []
def sT_iwo : Tr :=
(.br (.eq (.var 0) (.var 2))
(.br (.eq (.var 1) (.var 2))
(.leaf (.vs 0 2 (.consb (.tt false) .nil)))
(.leaf (.cons (.bin .add .i64 (.var 0) (.lit 1)) (.cons (.var 1) (.consb (.tt true) .nil)))))
(.br (.eq (.var 1) (.var 2))
(.leaf (.cons (.var 0) (.cons (.bin .sub .i64 (.var 1) (.lit 1)) (.consb (.tt true) .nil))))
(.leaf (.vs 0 2 (.consb (.tt true) .nil)))))
def sP_iwo : Spec := ⟨fun k => match k with | _ => fun _ => [], fun k => match k with | _ => fun _ => True⟩
set_option maxRecDepth 100000 in
theorem sR_iwo : treeIs tys_XbE [] [] [] 200 Tryz.f91 [.agg kPi, .one (.int .i64)] [.agg kPi, .one .bool] true [.int .i64, .int .i64, .int .i64] sT_iwo := ⟨by kernel_rfl, by kernel_rfl, by kernel_rfl⟩
set_option maxRecDepth 100000 in
set_option maxHeartbeats 8000000 in
theorem sX_iwo (a : Pi) (ha : Pi.ok a) (v : Int) (hv : inK .i64 v = true) (ρ : Env) (g : varsD ρ 0 [.int .i64, .int .i64, .int .i64] = [.z a.lo, .z a.hi, .z v]) : sT_iwo.asks sP_iwo (fun ρ e => e.D ρ = sF_iwo [.z a.lo, .z a.hi, .z v]) ρ fun _ _ => False := by
  simp only [varsD, varD, List.cons.injEq, Dt.z.injEq, Dt.l.injEq, b2i_eq_iff, Nat.reduceAdd, and_true] at g
  simp only [sT_iwo, sP_iwo, sF_iwo, sV_iwo, Tr.asks, upd_same, okDs, okD, eqs, E.I, E.B, E.L, E.R, E.D, E.vs, dI, dB, dL, varD, varsD, List.getElem?_cons_zero, List.getElem?_cons_succ, List.cons_append, List.nil_append, Nat.zero_add, Nat.add_zero, Nat.reduceAdd, and_true, true_and, b2i_one, -eq_self, Pi.eta, g]
  refine ⟨fun c0 => ?_, fun c0 => ?_⟩
  refine ⟨fun c1 => ?_, fun c1 => ?_⟩
  (simp_all [opI])
  (simp_all [opI])
  refine ⟨fun c2 => ?_, fun c2 => ?_⟩
  (simp_all [opI])
  (simp_all [opI])
theorem sK_iwo {sp : Spec} {key : Nat} (hF : sp.F key = sF_iwo) (hP : sp.pre key = fun _ => True := by rfl) : SmOk Tryz.prog sp (sM_iwo key) :=
  fun_ok (s := sM_iwo key) hF hP (by kernel_rfl) tysok_XbE (sm0) Tryz.func91 sR_iwo (.inl rfl) (fun x0 gx0 x1 gx1 x2 gx2 hp ρ g => sX_iwo ⟨x0, x1⟩ ⟨gx0, gx1⟩ x2 gx2 ρ g)
def sM_uabove (key : Nat) : Sm := ⟨92, key, [.agg kPu, .agg kPu, .one .bool, .one (.int .u64)], [.agg kPu, .one .bool], true⟩
def sV_uabove (a : Pu) (b : Pu) (t : Bool) (m : Int) : List Dt := [.z (((⟨if t = true ∧ (b.lo == m) = true then a.lo else max a.lo (if t = true then IntKind.u64.wrap (b.lo + 1) else b.lo), a.hi⟩ : Pu)).lo), .z (((⟨if t = true ∧ (b.lo == m) = true then a.lo else max a.lo (if t = true then IntKind.u64.wrap (b.lo + 1) else b.lo), a.hi⟩ : Pu)).hi), .z (b2i ((!(t && (b.lo == m)))))]
def sF_uabove : List Dt → List Dt
  | [.z x0, .z x1, .z x2, .z x3, .z x4, .z x5] => sV_uabove ⟨x0, x1⟩ ⟨x2, x3⟩ (x4 == 1) x5
  | _ => []
def sT_uabove : Tr :=
(.br (.bvar 4)
(.br (.eq (.var 2) (.var 5))
(.leaf (.vs 0 2 (.consb (.tt false) .nil)))
(.leaf (.cons (.mx (.var 0) (.bin .add .u64 (.var 2) (.lit 1))) (.cons (.var 1) (.consb (.tt true) .nil)))))
(.leaf (.cons (.mx (.var 0) (.var 2)) (.cons (.var 1) (.consb (.tt true) .nil)))))
def sP_uabove : Spec := ⟨fun k => match k with | _ => fun _ => [], fun k => match k with | _ => fun _ => True⟩
set_option maxRecDepth 100000 in
theorem sR_uabove : treeIs tys_XbE [] [] [] 200 Tryz.f92 [.agg kPu, .agg kPu, .one .bool, .one (.int .u64)] [.agg kPu, .one .bool] true [.int .u64, .int .u64, .int .u64, .int .u64, .bool, .int .u64] sT_uabove := ⟨by kernel_rfl, by kernel_rfl, by kernel_rfl⟩
set_option maxRecDepth 100000 in
set_option maxHeartbeats 8000000 in
theorem sX_uabove (a : Pu) (ha : Pu.ok a) (b : Pu) (hb : Pu.ok b) (t : Bool) (m : Int) (hm : inK .u64 m = true) (ρ : Env) (g : varsD ρ 0 [.int .u64, .int .u64, .int .u64, .int .u64, .bool, .int .u64] = [.z a.lo, .z a.hi, .z b.lo, .z b.hi, .z (b2i t), .z m]) : sT_uabove.asks sP_uabove (fun ρ e => e.D ρ = sF_uabove [.z a.lo, .z a.hi, .z b.lo, .z b.hi, .z (b2i t), .z m]) ρ fun _ _ => False := by
  simp only [varsD, varD, List.cons.injEq, Dt.z.injEq, Dt.l.injEq, b2i_eq_iff, Nat.reduceAdd, and_true] at g
  simp only [sT_uabove, sP_uabove, sF_uabove, sV_uabove, Tr.asks, upd_same, okDs, okD, eqs, E.I, E.B, E.L, E.R, E.D, E.vs, dI, dB, dL, varD, varsD, List.getElem?_cons_zero, List.getElem?_cons_succ, List.cons_append, List.nil_append, Nat.zero_add, Nat.add_zero, Nat.reduceAdd, and_true, true_and, b2i_one, -eq_self, Pu.eta, g]
  refine ⟨fun c0 => ?_, fun c0 => ?_⟩
  refine ⟨fun c1 => ?_, fun c1 => ?_⟩
  (simp_all [opI])
  (simp_all [opI])
  (simp_all [opI])
theorem sK_uabove {sp : Spec} {key : Nat} (hF : sp.F key = sF_uabove) (hP : sp.pre key = fun _ => True := by rfl) : SmOk Tryz.prog sp (sM_uabove key) :=
  fun_ok (s := sM_uabove key) hF hP (by kernel_rfl) tysok_XbE (sm0) Tryz.func92 sR_uabove (.inl rfl) (fun x0 gx0 x1 gx1 x2 gx2 x3 gx3 x4 x5 gx5 hp ρ g => sX_uabove ⟨x0, x1⟩ ⟨gx0, gx1⟩ ⟨x2, x3⟩ ⟨gx2, gx3⟩ x4 x5 gx5 ρ g)
def sM_ubelow (key : Nat) : Sm := ⟨93, key, [.agg kPu, .agg kPu, .one .bool, .one (.int .u64)], [.agg kPu, .one .bool], true⟩
def sV_ubelow (a : Pu) (b : Pu) (t : Bool) (m : Int) : List Dt := [.z (((⟨a.lo, if t = true ∧ (b.hi == m) = true then a.hi else min a.hi (if t = true then IntKind.u64.wrap (b.hi - 1) else b.hi)⟩ : Pu)).lo), .z (((⟨a.lo, if t = true ∧ (b.hi == m) = true then a.hi else min a.hi (if t = true then IntKind.u64.wrap (b.hi - 1) else b.hi)⟩ : Pu)).hi), .z (b2i ((!(t && (b.hi == m)))))]
def sF_ubelow : List Dt → List Dt
  | [.z x0, .z x1, .z x2, .z x3, .z x4, .z x5] => sV_ubelow ⟨x0, x1⟩ ⟨x2, x3⟩ (x4 == 1) x5
  | _ => []
def sT_ubelow : Tr :=
(.br (.bvar 4)
(.br (.eq (.var 3) (.var 5))
(.leaf (.vs 0 2 (.consb (.tt false) .nil)))
(.leaf (.cons (.var 0) (.cons (.mn (.var 1) (.bin .sub .u64 (.var 3) (.lit 1))) (.consb (.tt true) .nil)))))
(.leaf (.cons (.var 0) (.cons (.mn (.var 1) (.var 3)) (.consb (.tt true) .nil)))))
def sP_ubelow : Spec := ⟨fun k => match k with | _ => fun _ => [], fun k => match k with | _ => fun _ => True⟩
set_option maxRecDepth 100000 in
theorem sR_ubelow : treeIs tys_XbE [] [] [] 200 Tryz.f93 [.agg kPu, .agg kPu, .one .bool, .one (.int .u64)] [.agg kPu, .one .bool] true [.int .u64, .int .u64, .int .u64, .int .u64, .bool, .int .u64] sT_ubelow := ⟨by kernel_rfl, by kernel_rfl, by kernel_rfl⟩
set_option maxRecDepth 100000 in
set_option maxHeartbeats 8000000 in
theorem sX_ubelow (a : Pu) (ha : Pu.ok a) (b : Pu) (hb : Pu.ok b) (t : Bool) (m : Int) (hm : inK .u64 m = true) (ρ : Env) (g : varsD ρ 0 [.int .u64, .int .u64, .int .u64, .int .u64, .bool, .int .u64] = [.z a.lo, .z a.hi, .z b.lo, .z b.hi, .z (b2i t), .z m]) : sT_ubelow.asks sP_ubelow (fun ρ e => e.D ρ = sF_ubelow [.z a.lo, .z a.hi, .z b.lo, .z b.hi, .z (b2i t), .z m]) ρ fun _ _ => False := by
  simp only [varsD, varD, List.cons.injEq, Dt.z.injEq, Dt.l.injEq, b2i_eq_iff, Nat.reduceAdd, and_true] at g
  simp only [sT_ubelow, sP_ubelow, sF_ubelow, sV_ubelow, Tr.asks, upd_same, okDs, okD, eqs, E.I, E.B, E.L, E.R, E.D, E.vs, dI, dB, dL, varD, varsD, List.getElem?_cons_zero, List.getElem?_cons_succ, List.cons_append, List.nil_append, Nat.zero_add, Nat.add_zero, Nat.reduceAdd, and_true, true_and, b2i_one, -eq_self, Pu.eta, g]
  refine ⟨fun c0 => ?_, fun c0 => ?_⟩
  refine ⟨fun c1 => ?_, fun c1 => ?_⟩
  (simp_all [opI])
  (simp_all [opI])
  (simp_all [opI])
theorem sK_ubelow {sp : Spec} {key : Nat} (hF : sp.F key = sF_ubelow) (hP : sp.pre key = fun _ => True := by rfl) : SmOk Tryz.prog sp (sM_ubelow key) :=
  fun_ok (s := sM_ubelow key) hF hP (by kernel_rfl) tysok_XbE (sm0) Tryz.func93 sR_ubelow (.inl rfl) (fun x0 gx0 x1 gx1 x2 gx2 x3 gx3 x4 x5 gx5 hp ρ g => sX_ubelow ⟨x0, x1⟩ ⟨gx0, gx1⟩ ⟨x2, x3⟩ ⟨gx2, gx3⟩ x4 x5 gx5 ρ g)
def sM_iabove (key : Nat) : Sm := ⟨94, key, [.agg kPi, .agg kPi, .one .bool, .one (.int .i64)], [.agg kPi, .one .bool], true⟩
def sV_iabove (a : Pi) (b : Pi) (t : Bool) (m : Int) : List Dt := [.z (((⟨if t = true ∧ (b.lo == m) = true then a.lo else max a.lo (if t = true then IntKind.i64.wrap (b.lo + 1) else b.lo), a.hi⟩ : Pi)).lo), .z (((⟨if t = true ∧ (b.lo == m) = true then a.lo else max a.lo (if t = true then IntKind.i64.wrap (b.lo + 1) else b.lo), a.hi⟩ : Pi)).hi), .z (b2i ((!(t && (b.lo == m)))))]
def sF_iabove : List Dt → List Dt
  | [.z x0, .z x1, .z x2, .z x3, .z x4, .z x5] => sV_iabove ⟨x0, x1⟩ ⟨x2, x3⟩ (x4 == 1) x5
  | _ => []
def sT_iabove : Tr :=
(.br (.bvar 4)
(.br (.eq (.var 2) (.var 5))
(.leaf (.vs 0 2 (.consb (.tt false) .nil)))
(.leaf (.cons (.mx (.var 0) (.bin .add .i64 (.var 2) (.lit 1))) (.cons (.var 1) (.consb (.tt true) .nil)))))
(.leaf (.cons (.mx (.var 0) (.var 2)) (.cons (.var 1) (.consb (.tt true) .nil)))))
def sP_iabove : Spec := ⟨fun k => match k with | _ => fun _ => [], fun k => match k with | _ => fun _ => True⟩
set_option maxRecDepth 100000 in
theorem sR_iabove : treeIs tys_XbE [] [] [] 200 Tryz.f94 [.agg kPi, .agg kPi, .one .bool, .one (.int .i64)] [.agg kPi, .one .bool] true [.int .i64, .int .i64, .int .i64, .int .i64, .bool, .int .i64] sT_iabove := ⟨by kernel_rfl, by kernel_rfl, by kernel_rfl⟩
set_option maxRecDepth 100000 in
set_option maxHeartbeats 8000000 in
theorem sX_iabove (a : Pi) (ha : Pi.ok a) (b : Pi) (hb : Pi.ok b) (t : Bool) (m : Int) (hm : inK .i64 m = true) (ρ : Env) (g : varsD ρ 0 [.int .i64, .int .i64, .int .i64, .int .i64, .bool, .int .i64] = [.z a.lo, .z a.hi, .z b.lo, .z b.hi, .z (b2i t), .z m]) : sT_iabove.asks sP_iabove (fun ρ e => e.D ρ = sF_iabove [.z a.lo, .z a.hi, .z b.lo, .z b.hi, .z (b2i t), .z m]) ρ fun _ _ => False := by
  simp only [varsD, varD, List.cons.injEq, Dt.z.injEq, Dt.l.injEq, b2i_eq_iff, Nat.reduceAdd, and_true] at g
  simp only [sT_iabove, sP_iabove, sF_iabove, sV_iabove, Tr.asks, upd_same, okDs, okD, eqs, E.I, E.B, E.L, E.R, E.D, E.vs, dI, dB, dL, varD, varsD, List.getElem?_cons_zero, List.getElem?_cons_succ, List.cons_append, List.nil_append, Nat.zero_add, Nat.add_zero, Nat.reduceAdd, and_true, true_and, b2i_one, -eq_self, Pi.eta, g]
  refine ⟨fun c0 => ?_, fun c0 => ?_⟩
  refine ⟨fun c1 => ?_, fun c1 => ?_⟩
  (simp_all [opI])
  (simp_all [opI])
  (simp_all [opI])
theorem sK_iabove {sp : Spec} {key : Nat} (hF : sp.F key = sF_iabove) (hP : sp.pre key = fun _ => True := by rfl) : SmOk Tryz.prog sp (sM_iabove key) :=
  fun_ok (s := sM_iabove key) hF hP (by kernel_rfl) tysok_XbE (sm0) Tryz.func94 sR_iabove (.inl rfl) (fun x0 gx0 x1 gx1 x2 gx2 x3 gx3 x4 x5 gx5 hp ρ g => sX_iabove ⟨x0, x1⟩ ⟨gx0, gx1⟩ ⟨x2, x3⟩ ⟨gx2, gx3⟩ x4 x5 gx5 ρ g)
def sM_ibelow (key : Nat) : Sm := ⟨95, key, [.agg kPi, .agg kPi, .one .bool, .one (.int .i64)], [.agg kPi, .one .bool], true⟩
def sV_ibelow (a : Pi) (b : Pi) (t : Bool) (m : Int) : List Dt := [.z (((⟨a.lo, if t = true ∧ (b.hi == m) = true then a.hi else min a.hi (if t = true then IntKind.i64.wrap (b.hi - 1) else b.hi)⟩ : Pi)).lo), .z (((⟨a.lo, if t = true ∧ (b.hi == m) = true then a.hi else min a.hi (if t = true then IntKind.i64.wrap (b.hi - 1) else b.hi)⟩ : Pi)).hi), .z (b2i ((!(t && (b.hi == m)))))]
def sF_ibelow : List Dt → List Dt
  | [.z x0, .z x1, .z x2, .z x3, .z x4, .z x5] => sV_ibelow ⟨x0, x1⟩ ⟨x2, x3⟩ (x4 == 1) x5
  | _ => []
def sT_ibelow : Tr :=
(.br (.bvar 4)
(.br (.eq (.var 3) (.var 5))
(.leaf (.vs 0 2 (.consb (.tt false) .nil)))
(.leaf (.cons (.var 0) (.cons (.mn (.var 1) (.bin .sub .i64 (.var 3) (.lit 1))) (.consb (.tt true) .nil)))))
(.leaf (.cons (.var 0) (.cons (.mn (.var 1) (.var 3)) (.consb (.tt true) .nil)))))
def sP_ibelow : Spec := ⟨fun k => match k with | _ => fun _ => [], fun k => match k with | _ => fun _ => True⟩
set_option maxRecDepth 100000 in
theorem sR_ibelow : treeIs tys_XbE [] [] [] 200 Tryz.f95 [.agg kPi, .agg kPi, .one .bool, .one (.int .i64)] [.agg kPi, .one .bool] true [.int .i64, .int .i64, .int .i64, .int .i64, .bool, .int .i64] sT_ibelow := ⟨by kernel_rfl, by kernel_rfl, by kernel_rfl⟩
set_option maxRecDepth 100000 in
set_option maxHeartbeats 8000000 in
theorem sX_ibelow (a : Pi) (ha : Pi.ok a) (b : Pi) (hb : Pi.ok b) (t : Bool) (m : Int) (hm : inK .i64 m = true) (ρ : Env) (g : varsD ρ 0 [.int .i64, .int .i64, .int .i64, .int .i64, .bool, .int .i64] = [.z a.lo, .z a.hi, .z b.lo, .z b.hi, .z (b2i t), .z m]) : sT_ibelow.asks sP_ibelow (fun ρ e => e.D ρ = sF_ibelow [.z a.lo, .z a.hi, .z b.lo, .z b.hi, .z (b2i t), .z m]) ρ fun _ _ => False := by
  simp only [varsD, varD, List.cons.injEq, Dt.z.injEq, Dt.l.injEq, b2i_eq_iff, Nat.reduceAdd, and_true] at g
  simp only [sT_ibelow, sP_ibelow, sF_ibelow, sV_ibelow, Tr.asks, upd_same, okDs, okD, eqs, E.I, E.B, E.L, E.R, E.D, E.vs, dI, dB, dL, varD, varsD, List.getElem?_cons_zero, List.getElem?_cons_succ, List.cons_append, List.nil_append, Nat.zero_add, Nat.add_zero, Nat.reduceAdd, and_true, true_and, b2i_one, -eq_self, Pi.eta, g]
  refine ⟨fun c0 => ?_, fun c0 => ?_⟩
  refine ⟨fun c1 => ?_, fun c1 => ?_⟩
  (simp_all [opI])
  (simp_all [opI])
  (simp_all [opI])
theorem sK_ibelow {sp : Spec} {key : Nat} (hF : sp.F key = sF_ibelow) (hP : sp.pre key = fun _ => True := by rfl) : SmOk Tryz.prog sp (sM_ibelow key) :=
  fun_ok (s := sM_ibelow key) hF hP (by kernel_rfl) tysok_XbE (sm0) Tryz.func95 sR_ibelow (.inl rfl) (fun x0 gx0 x1 gx1 x2 gx2 x3 gx3 x4 x5 gx5 hp ρ g => sX_ibelow ⟨x0, x1⟩ ⟨gx0, gx1⟩ ⟨x2, x3⟩ ⟨gx2, gx3⟩ x4 x5 gx5 ρ g)
def sM_given (key : Nat) : Sm := ⟨34, key, [.one (.int .i8), .agg kRg, .agg kRg], [.agg kRg, .one .bool], true⟩
def sV_given (cc : Int) (a : Rg) (b : Rg) : List Dt := [.z ((bgiv cc a b).ul), .z ((bgiv cc a b).uh), .z ((bgiv cc a b).sl), .z ((bgiv cc a b).sh), .z (b2i (bgok cc a b))]
def sF_given : List Dt → List Dt
  | [.z x0, .z x1, .z x2, .z x3, .z x4, .z x5, .z x6, .z x7, .z x8] => sV_given x0 ⟨x1, x2, x3, x4⟩ ⟨x5, x6, x7, x8⟩
  | _ => []
def sT_given : Tr :=
(.call 0 ([.bool]) (.vs 1 4 .nil) 9
(.br (.bvar 9)
(.call 0 ([.bool]) (.vs 5 4 .nil) 10
(.br (.bvar 10)
(.br (.lt (.var 0) (.lit 0))
(.call 1 (kRg) .nil 11
(.leaf (.vs 11 4 (.consb (.tt false) .nil))))
(.br (.lt (.lit 10) (.var 0))
(.call 1 (kRg) .nil 11
(.leaf (.vs 11 4 (.consb (.tt false) .nil))))
(.call 4 (kPu) (.vs 1 4 .nil) 11
(.call 5 (kPi) (.vs 1 4 .nil) 13
(.br (.eq (.var 0) (.lit 0))
(.call 2 (kRg ++ [.bool]) (.vs 1 8 .nil) 15
(.leaf (.vs 15 4 (.consb (.bvar 19) .nil))))
(.br (.eq (.var 0) (.lit 1))
(.call 3 ([.int .u64] ++ [.bool]) (.vs 5 4 .nil) 15
(.br (.bvar 16)
(.call 6 (kPu ++ [.bool]) (.vs 11 2 (.cons (.var 15) .nil)) 17
(.call 7 (kPi ++ [.bool]) (.vs 13 2 (.cons (.conv .i64 (.var 15)) .nil)) 20
(.br (.bvar 19)
(.br (.bvar 22)
(.call 12 (kRg) (.vs 17 2 (.vs 20 2 .nil)) 23
(.call 13 (kRg ++ [.bool]) (.vs 23 4 .nil) 27
(.leaf (.vs 27 4 (.consb (.bvar 31) .nil)))))
(.call 1 (kRg) .nil 23
(.leaf (.vs 23 4 (.consb (.tt false) .nil)))))
(.call 1 (kRg) .nil 23
(.leaf (.vs 23 4 (.consb (.tt false) .nil)))))))
(.call 12 (kRg) (.vs 11 4 .nil) 17
(.call 13 (kRg ++ [.bool]) (.vs 17 4 .nil) 21
(.leaf (.vs 21 4 (.consb (.bvar 25) .nil)))))))
(.br (.eq (.var 0) (.lit 2))
(.call 4 (kPu) (.vs 5 4 .nil) 15
(.call 8 (kPu ++ [.bool]) (.vs 11 2 (.vs 15 2 (.consb (.eq (.var 0) (.lit 2)) (.cons (.lit 18446744073709551615) .nil)))) 17
(.br (.bvar 19)
(.call 12 (kRg) (.vs 17 2 (.vs 13 2 .nil)) 20
(.call 13 (kRg ++ [.bool]) (.vs 20 4 .nil) 24
(.leaf (.vs 24 4 (.consb (.bvar 28) .nil)))))
(.call 1 (kRg) .nil 20
(.leaf (.vs 20 4 (.consb (.tt false) .nil)))))))
(.br (.eq (.var 0) (.lit 3))
(.call 4 (kPu) (.vs 5 4 .nil) 15
(.call 8 (kPu ++ [.bool]) (.vs 11 2 (.vs 15 2 (.consb (.eq (.var 0) (.lit 2)) (.cons (.lit 18446744073709551615) .nil)))) 17
(.br (.bvar 19)
(.call 12 (kRg) (.vs 17 2 (.vs 13 2 .nil)) 20
(.call 13 (kRg ++ [.bool]) (.vs 20 4 .nil) 24
(.leaf (.vs 24 4 (.consb (.bvar 28) .nil)))))
(.call 1 (kRg) .nil 20
(.leaf (.vs 20 4 (.consb (.tt false) .nil)))))))
(.br (.eq (.var 0) (.lit 4))
(.call 4 (kPu) (.vs 5 4 .nil) 15
(.call 9 (kPu ++ [.bool]) (.vs 11 2 (.vs 15 2 (.consb (.eq (.var 0) (.lit 4)) (.cons (.lit 0) .nil)))) 17
(.br (.bvar 19)
(.call 12 (kRg) (.vs 17 2 (.vs 13 2 .nil)) 20
(.call 13 (kRg ++ [.bool]) (.vs 20 4 .nil) 24
(.leaf (.vs 24 4 (.consb (.bvar 28) .nil)))))
(.call 1 (kRg) .nil 20
(.leaf (.vs 20 4 (.consb (.tt false) .nil)))))))
(.br (.eq (.var 0) (.lit 5))
(.call 4 (kPu) (.vs 5 4 .nil) 15
(.call 9 (kPu ++ [.bool]) (.vs 11 2 (.vs 15 2 (.consb (.eq (.var 0) (.lit 4)) (.cons (.lit 0) .nil)))) 17
(.br (.bvar 19)
(.call 12 (kRg) (.vs 17 2 (.vs 13 2 .nil)) 20
(.call 13 (kRg ++ [.bool]) (.vs 20 4 .nil) 24
(.leaf (.vs 24 4 (.consb (.bvar 28) .nil)))))
(.call 1 (kRg) .nil 20
(.leaf (.vs 20 4 (.consb (.tt false) .nil)))))))
(.br (.eq (.var 0) (.lit 6))
(.call 5 (kPi) (.vs 5 4 .nil) 15
(.call 10 (kPi ++ [.bool]) (.vs 13 4 (.consb (.eq (.var 0) (.lit 6)) (.cons (.lit 9223372036854775807) .nil))) 17
(.br (.bvar 19)
(.call 12 (kRg) (.vs 11 2 (.vs 17 2 .nil)) 20
(.call 13 (kRg ++ [.bool]) (.vs 20 4 .nil) 24
(.leaf (.vs 24 4 (.consb (.bvar 28) .nil)))))
(.call 1 (kRg) .nil 20
(.leaf (.vs 20 4 (.consb (.tt false) .nil)))))))
(.br (.eq (.var 0) (.lit 7))
(.call 5 (kPi) (.vs 5 4 .nil) 15
(.call 10 (kPi ++ [.bool]) (.vs 13 4 (.consb (.eq (.var 0) (.lit 6)) (.cons (.lit 9223372036854775807) .nil))) 17
(.br (.bvar 19)
(.call 12 (kRg) (.vs 11 2 (.vs 17 2 .nil)) 20
(.call 13 (kRg ++ [.bool]) (.vs 20 4 .nil) 24
(.leaf (.vs 24 4 (.consb (.bvar 28) .nil)))))
(.call 1 (kRg) .nil 20
(.leaf (.vs 20 4 (.consb (.tt false) .nil)))))))
(.br (.eq (.var 0) (.lit 8))
(.call 5 (kPi) (.vs 5 4 .nil) 15
(.call 11 (kPi ++ [.bool]) (.vs 13 4 (.consb (.eq (.var 0) (.lit 8)) (.cons (.lit (-9223372036854775808)) .nil))) 17
(.br (.bvar 19)
(.call 12 (kRg) (.vs 11 2 (.vs 17 2 .nil)) 20
(.call 13 (kRg ++ [.bool]) (.vs 20 4 .nil) 24
(.leaf (.vs 24 4 (.consb (.bvar 28) .nil)))))
(.call 1 (kRg) .nil 20
(.leaf (.vs 20 4 (.consb (.tt false) .nil)))))))
(.br (.eq (.var 0) (.lit 9))
(.call 5 (kPi) (.vs 5 4 .nil) 15
(.call 11 (kPi ++ [.bool]) (.vs 13 4 (.consb (.eq (.var 0) (.lit 8)) (.cons (.lit (-9223372036854775808)) .nil))) 17
(.br (.bvar 19)
(.call 12 (kRg) (.vs 11 2 (.vs 17 2 .nil)) 20
(.call 13 (kRg ++ [.bool]) (.vs 20 4 .nil) 24
(.leaf (.vs 24 4 (.consb (.bvar 28) .nil)))))
(.call 1 (kRg) .nil 20
(.leaf (.vs 20 4 (.consb (.tt false) .nil)))))))
(.call 12 (kRg) (.vs 11 4 .nil) 15
(.call 13 (kRg ++ [.bool]) (.vs 15 4 .nil) 19
(.leaf (.vs 19 4 (.consb (.bvar 23) .nil)))))))))))))))))))
(.call 1 (kRg) .nil 11
(.leaf (.vs 11 4 (.consb (.tt false) .nil))))))
(.call 1 (kRg) .nil 10
(.leaf (.vs 10 4 (.consb (.tt false) .nil))))))
def sP_given : Spec := ⟨fun k => match k with | 0 => sF_may | 1 => sF_all | 2 => sF_meet | 3 => sF_single | 4 => sF_uns | 5 => sF_sig | 6 => sF_uwo | 7 => sF_iwo | 8 => sF_uabove | 9 => sF_ubelow | 10 => sF_iabove | 11 => sF_ibelow | 12 => sF_of | 13 => sF_nar | _ => fun _ => [], fun k => match k with | _ => fun _ => True⟩
set_option maxRecDepth 100000 in
theorem sR_given : treeIs tys_XbE [sM_may 0, sM_all 1, sM_meet 2, sM_single 3, sM_uns 4, sM_sig 5, sM_uwo 6, sM_iwo 7, sM_uabove 8, sM_ubelow 9, sM_iabove 10, sM_ibelow 11, sM_of 12, sM_nar 13] [] [] 200 Tryz.f34 [.one (.int .i8), .agg kRg, .agg kRg] [.agg kRg, .one .bool] true [.int .i8, .int .u64, .int .u64, .int .i64, .int .i64, .int .u64, .int .u64, .int .i64, .int .i64] sT_given := ⟨by kernel_rfl, by kernel_rfl, by kernel_rfl⟩
set_option maxRecDepth 100000 in
set_option maxHeartbeats 8000000 in
theorem sX_given (cc : Int) (hcc : inK .i8 cc = true) (a : Rg) (ha : Rg.ok a) (b : Rg) (hb : Rg.ok b) (ρ : Env) (g : varsD ρ 0 [.int .i8, .int .u64, .int .u64, .int .i64, .int .i64, .int .u64, .int .u64, .int .i64, .int .i64] = [.z cc, .z a.ul, .z a.uh, .z a.sl, .z a.sh, .z b.ul, .z b.uh, .z b.sl, .z b.sh]) : sT_given.asks sP_given (fun ρ e => e.D ρ = sF_given [.z cc, .z a.ul, .z a.uh, .z a.sl, .z a.sh, .z b.ul, .z b.uh, .z b.sl, .z b.sh]) ρ fun _ _ => False := by
  simp only [varsD, varD, List.cons.injEq, Dt.z.injEq, Dt.l.injEq, b2i_eq_iff, Nat.reduceAdd, and_true] at g
  simp only [sT_given, sP_given, kPi, kPu, kRg, sF_may, sF_all, sF_meet, sF_single, sF_uns, sF_sig, sF_uwo, sF_iwo, sF_uabove, sF_ubelow, sF_iabove, sF_ibelow, sF_of, sF_nar, sV_may, sV_meet, sV_single, sV_uns, sV_sig, sV_uwo, sV_iwo, sV_uabove, sV_ubelow, sV_iabove, sV_ibelow, sV_of, sV_nar, sF_given, sV_given, Tr.asks, upd_same, okDs, okD, eqs, E.I, E.B, E.L, E.R, E.D, E.vs, dI, dB, dL, varD, varsD, List.getElem?_cons_zero, List.getElem?_cons_succ, List.cons_append, List.nil_append, Nat.zero_add, Nat.add_zero, Nat.reduceAdd, and_true, true_and, b2i_one, -eq_self, Pi.eta, Pu.eta, Rg.eta, g]
  intro e; (try simp only [e, Pi.eta, Pu.eta, Rg.eta, -eq_self]); clear e
  refine ⟨fun c0 => ?_, fun c0 => ?_⟩
  intro e; (try simp only [e, Pi.eta, Pu.eta, Rg.eta, -eq_self]); clear e
  refine ⟨fun c1 => ?_, fun c1 => ?_⟩
  refine ⟨fun c2 => ?_, fun c2 => ?_⟩
  intro e; (try simp only [e, Pi.eta, Pu.eta, Rg.eta, -eq_self]); clear e
  exact tup_Rg (gv_not (.inl (by unfold bgood; rw [c0, c1, decide_eq_false (show ¬ 0 ≤ cc from Int.not_le.2 (of_decide_eq_true c2))]; rfl))).1 (gv_not (.inl (by unfold bgood; rw [c0, c1, decide_eq_false (show ¬ 0 ≤ cc from Int.not_le.2 (of_decide_eq_true c2))]; rfl))).2
  refine ⟨fun c3 => ?_, fun c3 => ?_⟩
  intro e; (try simp only [e, Pi.eta, Pu.eta, Rg.eta, -eq_self]); clear e
  exact tup_Rg (gv_not (.inl (by unfold bgood; rw [c0, c1, decide_eq_false (show ¬ cc ≤ 10 from Int.not_le.2 (of_decide_eq_true c3))]; simp))).1 (gv_not (.inl (by unfold bgood; rw [c0, c1, decide_eq_false (show ¬ cc ≤ 10 from Int.not_le.2 (of_decide_eq_true c3))]; simp))).2
  intro e; (try simp only [e, Pi.eta, Pu.eta, Rg.eta, -eq_self]); clear e
  intro e; (try simp only [e, Pi.eta, Pu.eta, Rg.eta, -eq_self]); clear e
  refine ⟨fun c4 => ?_, fun c4 => ?_⟩
  intro e; (try simp only [e, Pi.eta, Pu.eta, Rg.eta, -eq_self]); clear e
  (have hcc : 0 ≤ cc ∧ cc ≤ 10 := ⟨Int.not_lt.1 (of_decide_eq_false c2), Int.not_lt.1 (of_decide_eq_false c3)⟩; have hg := gv_good c0 c1 hcc; obtain rfl := eqz c4; exact tup_Rg (gv_eq hg).1 (gv_eq hg).2)
  refine ⟨fun c5 => ?_, fun c5 => ?_⟩
  intro e; (try simp only [e, Pi.eta, Pu.eta, Rg.eta, -eq_self]); clear e
  refine ⟨fun c6 => ?_, fun c6 => ?_⟩
  intro e; (try simp only [e, Pi.eta, Pu.eta, Rg.eta, -eq_self]); clear e
  intro e; (try simp only [e, Pi.eta, Pu.eta, Rg.eta, -eq_self]); clear e
  refine ⟨fun c7 => ?_, fun c7 => ?_⟩
  refine ⟨fun c8 => ?_, fun c8 => ?_⟩
  intro e; (try simp only [e, Pi.eta, Pu.eta, Rg.eta, -eq_self]); clear e
  intro e; (try simp only [e, Pi.eta, Pu.eta, Rg.eta, -eq_self]); clear e
  (have hcc : 0 ≤ cc ∧ cc ≤ 10 := ⟨Int.not_lt.1 (of_decide_eq_false c2), Int.not_lt.1 (of_decide_eq_false c3)⟩; have hg := gv_good c0 c1 hcc; obtain rfl := eqz c5; have hq := gv_can (by omega) hg (gvc_1 ha hb c6 c7 c8) (gvr_1 ha hb c0 c6 c7 c8); exact tup_Rg hq.1 hq.2)
  intro e; (try simp only [e, Pi.eta, Pu.eta, Rg.eta, -eq_self]); clear e
  (have hcc : 0 ≤ cc ∧ cc ≤ 10 := ⟨Int.not_lt.1 (of_decide_eq_false c2), Int.not_lt.1 (of_decide_eq_false c3)⟩; have hg := gv_good c0 c1 hcc; obtain rfl := eqz c5; have hq := gv_not (cc := 1) (.inr ⟨by omega, gvn_1 ha hb c6 (.inr c8)⟩); exact tup_Rg hq.1 hq.2)
  intro e; (try simp only [e, Pi.eta, Pu.eta, Rg.eta, -eq_self]); clear e
  (have hcc : 0 ≤ cc ∧ cc ≤ 10 := ⟨Int.not_lt.1 (of_decide_eq_false c2), Int.not_lt.1 (of_decide_eq_false c3)⟩; have hg := gv_good c0 c1 hcc; obtain rfl := eqz c5; have hq := gv_not (cc := 1) (.inr ⟨by omega, gvn_1 ha hb c6 (.inl c7)⟩); exact tup_Rg hq.1 hq.2)
  intro e; (try simp only [e, Pi.eta, Pu.eta, Rg.eta, -eq_self]); clear e
  intro e; (try simp only [e, Pi.eta, Pu.eta, Rg.eta, -eq_self]); clear e
  (have hcc : 0 ≤ cc ∧ cc ≤ 10 := ⟨Int.not_lt.1 (of_decide_eq_false c2), Int.not_lt.1 (of_decide_eq_false c3)⟩; have hg := gv_good c0 c1 hcc; obtain rfl := eqz c5; have hq := gv_can (by omega) hg (gvc_1n ha hb c6) (gvr_1n ha hb c6); exact tup_Rg hq.1 hq.2)
  refine ⟨fun c9 => ?_, fun c9 => ?_⟩
  intro e; (try simp only [e, Pi.eta, Pu.eta, Rg.eta, -eq_self]); clear e
  intro e; (try simp only [e, Pi.eta, Pu.eta, Rg.eta, -eq_self]); clear e
  refine ⟨fun c10 => ?_, fun c10 => ?_⟩
  intro e; (try simp only [e, Pi.eta, Pu.eta, Rg.eta, -eq_self]); clear e
  intro e; (try simp only [e, Pi.eta, Pu.eta, Rg.eta, -eq_self]); clear e
  (have hcc : 0 ≤ cc ∧ cc ≤ 10 := ⟨Int.not_lt.1 (of_decide_eq_false c2), Int.not_lt.1 (of_decide_eq_false c3)⟩; have hg := gv_good c0 c1 hcc; obtain rfl := eqz c9; have hq := gv_can (by omega) hg (gvc_2 ha hb c10) (gvr_2 ha hb c10); exact tup_Rg hq.1 hq.2)
  intro e; (try simp only [e, Pi.eta, Pu.eta, Rg.eta, -eq_self]); clear e
  (have hcc : 0 ≤ cc ∧ cc ≤ 10 := ⟨Int.not_lt.1 (of_decide_eq_false c2), Int.not_lt.1 (of_decide_eq_false c3)⟩; have hg := gv_good c0 c1 hcc; obtain rfl := eqz c9; have hq := gv_not (cc := 2) (.inr ⟨by omega, gvn_2 ha hb c10⟩); exact tup_Rg hq.1 hq.2)
  refine ⟨fun c11 => ?_, fun c11 => ?_⟩
  intro e; (try simp only [e, Pi.eta, Pu.eta, Rg.eta, -eq_self]); clear e
  intro e; (try simp only [e, Pi.eta, Pu.eta, Rg.eta, -eq_self]); clear e
  refine ⟨fun c12 => ?_, fun c12 => ?_⟩
  intro e; (try simp only [e, Pi.eta, Pu.eta, Rg.eta, -eq_self]); clear e
  intro e; (try simp only [e, Pi.eta, Pu.eta, Rg.eta, -eq_self]); clear e
  (have hcc : 0 ≤ cc ∧ cc ≤ 10 := ⟨Int.not_lt.1 (of_decide_eq_false c2), Int.not_lt.1 (of_decide_eq_false c3)⟩; have hg := gv_good c0 c1 hcc; obtain rfl := eqz c11; have hq := gv_can (by omega) hg (gvc_3 ha hb c12) (gvr_3 ha hb c12); exact tup_Rg hq.1 hq.2)
  intro e; (try simp only [e, Pi.eta, Pu.eta, Rg.eta, -eq_self]); clear e
  (have hcc : 0 ≤ cc ∧ cc ≤ 10 := ⟨Int.not_lt.1 (of_decide_eq_false c2), Int.not_lt.1 (of_decide_eq_false c3)⟩; have hg := gv_good c0 c1 hcc; obtain rfl := eqz c11; exact absurd c12 (by simp))
  refine ⟨fun c13 => ?_, fun c13 => ?_⟩
  intro e; (try simp only [e, Pi.eta, Pu.eta, Rg.eta, -eq_self]); clear e
  intro e; (try simp only [e, Pi.eta, Pu.eta, Rg.eta, -eq_self]); clear e
  refine ⟨fun c14 => ?_, fun c14 => ?_⟩
  intro e; (try simp only [e, Pi.eta, Pu.eta, Rg.eta, -eq_self]); clear e
  intro e; (try simp only [e, Pi.eta, Pu.eta, Rg.eta, -eq_self]); clear e
  (have hcc : 0 ≤ cc ∧ cc ≤ 10 := ⟨Int.not_lt.1 (of_decide_eq_false c2), Int.not_lt.1 (of_decide_eq_false c3)⟩; have hg := gv_good c0 c1 hcc; obtain rfl := eqz c13; have hq := gv_can (by omega) hg (gvc_4 ha hb c14) (gvr_4 ha hb c14); exact tup_Rg hq.1 hq.2)
  intro e; (try simp only [e, Pi.eta, Pu.eta, Rg.eta, -eq_self]); clear e
  (have hcc : 0 ≤ cc ∧ cc ≤ 10 := ⟨Int.not_lt.1 (of_decide_eq_false c2), Int.not_lt.1 (of_decide_eq_false c3)⟩; have hg := gv_good c0 c1 hcc; obtain rfl := eqz c13; have hq := gv_not (cc := 4) (.inr ⟨by omega, gvn_4 ha hb c14⟩); exact tup_Rg hq.1 hq.2)
  refine ⟨fun c15 => ?_, fun c15 => ?_⟩
  intro e; (try simp only [e, Pi.eta, Pu.eta, Rg.eta, -eq_self]); clear e
  intro e; (try simp only [e, Pi.eta, Pu.eta, Rg.eta, -eq_self]); clear e
  refine ⟨fun c16 => ?_, fun c16 => ?_⟩
  intro e; (try simp only [e, Pi.eta, Pu.eta, Rg.eta, -eq_self]); clear e
  intro e; (try simp only [e, Pi.eta, Pu.eta, Rg.eta, -eq_self]); clear e
  (have hcc : 0 ≤ cc ∧ cc ≤ 10 := ⟨Int.not_lt.1 (of_decide_eq_false c2), Int.not_lt.1 (of_decide_eq_false c3)⟩; have hg := gv_good c0 c1 hcc; obtain rfl := eqz c15; have hq := gv_can (by omega) hg (gvc_5 ha hb c16) (gvr_5 ha hb c16); exact tup_Rg hq.1 hq.2)
  intro e; (try simp only [e, Pi.eta, Pu.eta, Rg.eta, -eq_self]); clear e
  (have hcc : 0 ≤ cc ∧ cc ≤ 10 := ⟨Int.not_lt.1 (of_decide_eq_false c2), Int.not_lt.1 (of_decide_eq_false c3)⟩; have hg := gv_good c0 c1 hcc; obtain rfl := eqz c15; exact absurd c16 (by simp))
  refine ⟨fun c17 => ?_, fun c17 => ?_⟩
  intro e; (try simp only [e, Pi.eta, Pu.eta, Rg.eta, -eq_self]); clear e
  intro e; (try simp only [e, Pi.eta, Pu.eta, Rg.eta, -eq_self]); clear e
  refine ⟨fun c18 => ?_, fun c18 => ?_⟩
  intro e; (try simp only [e, Pi.eta, Pu.eta, Rg.eta, -eq_self]); clear e
  intro e; (try simp only [e, Pi.eta, Pu.eta, Rg.eta, -eq_self]); clear e
  (have hcc : 0 ≤ cc ∧ cc ≤ 10 := ⟨Int.not_lt.1 (of_decide_eq_false c2), Int.not_lt.1 (of_decide_eq_false c3)⟩; have hg := gv_good c0 c1 hcc; obtain rfl := eqz c17; have hq := gv_can (by omega) hg (gvc_6 ha hb c18) (gvr_6 ha hb c18); exact tup_Rg hq.1 hq.2)
  intro e; (try simp only [e, Pi.eta, Pu.eta, Rg.eta, -eq_self]); clear e
  (have hcc : 0 ≤ cc ∧ cc ≤ 10 := ⟨Int.not_lt.1 (of_decide_eq_false c2), Int.not_lt.1 (of_decide_eq_false c3)⟩; have hg := gv_good c0 c1 hcc; obtain rfl := eqz c17; have hq := gv_not (cc := 6) (.inr ⟨by omega, gvn_6 ha hb c18⟩); exact tup_Rg hq.1 hq.2)
  refine ⟨fun c19 => ?_, fun c19 => ?_⟩
  intro e; (try simp only [e, Pi.eta, Pu.eta, Rg.eta, -eq_self]); clear e
  intro e; (try simp only [e, Pi.eta, Pu.eta, Rg.eta, -eq_self]); clear e
  refine ⟨fun c20 => ?_, fun c20 => ?_⟩
  intro e; (try simp only [e, Pi.eta, Pu.eta, Rg.eta, -eq_self]); clear e
  intro e; (try simp only [e, Pi.eta, Pu.eta, Rg.eta, -eq_self]); clear e
  (have hcc : 0 ≤ cc ∧ cc ≤ 10 := ⟨Int.not_lt.1 (of_decide_eq_false c2), Int.not_lt.1 (of_decide_eq_false c3)⟩; have hg := gv_good c0 c1 hcc; obtain rfl := eqz c19; have hq := gv_can (by omega) hg (gvc_7 ha hb c20) (gvr_7 ha hb c20); exact tup_Rg hq.1 hq.2)
  intro e; (try simp only [e, Pi.eta, Pu.eta, Rg.eta, -eq_self]); clear e
  (have hcc : 0 ≤ cc ∧ cc ≤ 10 := ⟨Int.not_lt.1 (of_decide_eq_false c2), Int.not_lt.1 (of_decide_eq_false c3)⟩; have hg := gv_good c0 c1 hcc; obtain rfl := eqz c19; exact absurd c20 (by simp))
  refine ⟨fun c21 => ?_, fun c21 => ?_⟩
  intro e; (try simp only [e, Pi.eta, Pu.eta, Rg.eta, -eq_self]); clear e
  intro e; (try simp only [e, Pi.eta, Pu.eta, Rg.eta, -eq_self]); clear e
  refine ⟨fun c22 => ?_, fun c22 => ?_⟩
  intro e; (try simp only [e, Pi.eta, Pu.eta, Rg.eta, -eq_self]); clear e
  intro e; (try simp only [e, Pi.eta, Pu.eta, Rg.eta, -eq_self]); clear e
  (have hcc : 0 ≤ cc ∧ cc ≤ 10 := ⟨Int.not_lt.1 (of_decide_eq_false c2), Int.not_lt.1 (of_decide_eq_false c3)⟩; have hg := gv_good c0 c1 hcc; obtain rfl := eqz c21; have hq := gv_can (by omega) hg (gvc_8 ha hb c22) (gvr_8 ha hb c22); exact tup_Rg hq.1 hq.2)
  intro e; (try simp only [e, Pi.eta, Pu.eta, Rg.eta, -eq_self]); clear e
  (have hcc : 0 ≤ cc ∧ cc ≤ 10 := ⟨Int.not_lt.1 (of_decide_eq_false c2), Int.not_lt.1 (of_decide_eq_false c3)⟩; have hg := gv_good c0 c1 hcc; obtain rfl := eqz c21; have hq := gv_not (cc := 8) (.inr ⟨by omega, gvn_8 ha hb c22⟩); exact tup_Rg hq.1 hq.2)
  refine ⟨fun c23 => ?_, fun c23 => ?_⟩
  intro e; (try simp only [e, Pi.eta, Pu.eta, Rg.eta, -eq_self]); clear e
  intro e; (try simp only [e, Pi.eta, Pu.eta, Rg.eta, -eq_self]); clear e
  refine ⟨fun c24 => ?_, fun c24 => ?_⟩
  intro e; (try simp only [e, Pi.eta, Pu.eta, Rg.eta, -eq_self]); clear e
  intro e; (try simp only [e, Pi.eta, Pu.eta, Rg.eta, -eq_self]); clear e
  (have hcc : 0 ≤ cc ∧ cc ≤ 10 := ⟨Int.not_lt.1 (of_decide_eq_false c2), Int.not_lt.1 (of_decide_eq_false c3)⟩; have hg := gv_good c0 c1 hcc; obtain rfl := eqz c23; have hq := gv_can (by omega) hg (gvc_9 ha hb c24) (gvr_9 ha hb c24); exact tup_Rg hq.1 hq.2)
  intro e; (try simp only [e, Pi.eta, Pu.eta, Rg.eta, -eq_self]); clear e
  (have hcc : 0 ≤ cc ∧ cc ≤ 10 := ⟨Int.not_lt.1 (of_decide_eq_false c2), Int.not_lt.1 (of_decide_eq_false c3)⟩; have hg := gv_good c0 c1 hcc; obtain rfl := eqz c23; exact absurd c24 (by simp))
  intro e; (try simp only [e, Pi.eta, Pu.eta, Rg.eta, -eq_self]); clear e
  intro e; (try simp only [e, Pi.eta, Pu.eta, Rg.eta, -eq_self]); clear e
  (have hcc : 0 ≤ cc ∧ cc ≤ 10 := ⟨Int.not_lt.1 (of_decide_eq_false c2), Int.not_lt.1 (of_decide_eq_false c3)⟩; have hg := gv_good c0 c1 hcc; obtain rfl : cc = 10 := (by have := nez c4; have h1 := nez c5; have h2 := nez c9; have h3 := nez c11; have h4 := nez c13; have h5 := nez c15; have h6 := nez c17; have h7 := nez c19; have h8 := nez c21; have h9 := nez c23; omega); have hq := gv_can (by omega) hg (gvc_10 ha hb) (gvr_10 ha hb); exact tup_Rg hq.1 hq.2)
  intro e; (try simp only [e, Pi.eta, Pu.eta, Rg.eta, -eq_self]); clear e
  exact tup_Rg (gv_not (.inl (by unfold bgood; rw [c0, c1]; rfl))).1 (gv_not (.inl (by unfold bgood; rw [c0, c1]; rfl))).2
  intro e; (try simp only [e, Pi.eta, Pu.eta, Rg.eta, -eq_self]); clear e
  exact tup_Rg (gv_not (.inl (by unfold bgood; rw [c0]; rfl))).1 (gv_not (.inl (by unfold bgood; rw [c0]; rfl))).2
theorem sK_given {sp : Spec} {key : Nat} (hF : sp.F key = sF_given) (hP : sp.pre key = fun _ => True := by rfl) : SmOk Tryz.prog sp (sM_given key) :=
  fun_ok (s := sM_given key) hF hP (by kernel_rfl) tysok_XbE (smc (sK_may rfl) (smc (sK_all rfl) (smc (sK_meet rfl) (smc (sK_single rfl) (smc (sK_uns rfl) (smc (sK_sig rfl) (smc (sK_uwo rfl) (smc (sK_iwo rfl) (smc (sK_uabove rfl) (smc (sK_ubelow rfl) (smc (sK_iabove rfl) (smc (sK_ibelow rfl) (smc (sK_of rfl) (smc (sK_nar rfl) sm0)))))))))))))) Tryz.func34 sR_given (.inl rfl) (fun x0 gx0 x1 gx1 x2 gx2 x3 gx3 x4 gx4 x5 gx5 x6 gx6 x7 gx7 x8 gx8 hp ρ g => sX_given x0 gx0 ⟨x1, x2, x3, x4⟩ ⟨gx1, gx2, gx3, gx4⟩ ⟨x5, x6, x7, x8⟩ ⟨gx5, gx6, gx7, gx8⟩ ρ g)
end Go.Proofs.YtcfnglbcgkappaaGreat
