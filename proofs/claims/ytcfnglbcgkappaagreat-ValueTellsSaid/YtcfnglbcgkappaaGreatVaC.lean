/- Contracts of Do and Given of package value and of what the laws wake, by the symbolic run. -/
import Derived.Test.YtcfnglbcgkappaaGreatVaB
import Derived.Test.YtcfnglbcgkappaaGreatKaD
import Derived.Test.YtcfnglbcgkappaaGreatVlZ
import Derived.Test.YtcfnglbcgkappaaGreatProg
import Derived.Laws.Externs
set_option linter.unusedVariables false
set_option linter.unusedSimpArgs false
namespace Go.Proofs.YtcfnglbcgkappaaGreat
open Go.RowKit Go.ChangeShapes Go.WideShapes

def tys_VaC : List (Nat × TI) := [(2, ⟨false, 1, [.int .i64 (.lit 0)], [], none, some .i64, false, false, none, 8, false⟩),
 (22, ⟨false, 1, [.int .i8 (.lit 0)], [], none, some .i8, false, false, none, 1, false⟩),
 (23, ⟨false, 1, [.int .u64 (.lit 0)], [], none, some .u64, false, false, none, 8, false⟩),
 (25, ⟨true, 4, [.int .u64 (.lit 0), .int .u64 (.lit 0), .int .i64 (.lit 0), .int .i64 (.lit 0)], [(0, 23), (1, 23), (2, 2), (3, 2)], none, none, false, false, none, 32, false⟩),
 (27, ⟨true, 2, [.int .u64 (.lit 0), .int .u64 (.lit 0)], [(0, 23), (1, 23)], none, none, false, false, none, 16, false⟩),
 (29, ⟨true, 6, [.int .u64 (.lit 0), .int .u64 (.lit 0), .int .i64 (.lit 0), .int .i64 (.lit 0), .int .u64 (.lit 0), .int .u64 (.lit 0)], [(0, 25), (4, 27)], none, none, false, false, none, 48, false⟩),
 (68, ⟨false, 1, [.int .i64 (.lit 0)], [], none, some .i64, false, false, none, 8, false⟩)]
set_option maxRecDepth 100000 in
theorem tysck_VaC : (tys_VaC.all fun p => ckTI Tryz.prog p.1 p.2) = true := by kernel_rfl
theorem tysne_VaC : (tys_VaC.all fun p => !p.2.eqok) = true := by kernel_rfl
theorem tysok_VaC : ∀ t i, (t, i) ∈ tys_VaC → TIok Tryz.prog t i := by
  intro t i h
  have h1 := all_at (f := fun _ i => !i.eqok) tysne_VaC h
  exact TIok_of (all_at (f := ckTI Tryz.prog) tysck_VaC h) (fun he => by simp [he] at h1) (fun he => by simp [he] at h1)
def sM_bits0 (key : Nat) : Sm := ⟨66, key, [.one (.int .i8), .one (.int .i8), .one (.lit .u64 0), .one (.lit .u64 0)], [.one (.int .u64), .one (.int .i64)], true⟩
def sV_bits0 (op : Int) (l : Int) : List Dt := [.z (if okop op l = true then zdo op l 0 0 else 0), .z (if okop op l = true then 0 else 2)]
def sF_bits0 : List Dt → List Dt
  | [.z x0, .z x1] => sV_bits0 x0 x1
  | _ => []
theorem sX_bits0 (op : Int) (hop : inK .i8 op = true) (l : Int) (hl : inK .i8 l = true)   : (∀ w, Calls Tryz.prog 66 #[.int .i8 op, .int .i8 l, .int .u64 0, .int .u64 0] w fun e w' => e = .returned (.tuple #[.int .u64 (if okop op l = true then zdo op l 0 0 else 0), .int .i64 (if okop op l = true then 0 else 2)]) ∧ Ext w w') ∧ valIn (.tuple #[.int .u64 (if okop op l = true then zdo op l 0 0 else 0), .int .i64 (if okop op l = true then 0 else 2)]) = true := by
  exact sX_bits op hop l hl 0 (by decide) 0 (by decide)
theorem sK_bits0 {sp : Spec} {key : Nat} (hF : sp.F key = sF_bits0) : SmOk Tryz.prog sp (sM_bits0 key) := by
  refine SmOk.pure hF rfl rfl fun xs vals w h => ?_
  obtain ⟨_, _, _, rfl, ⟨x0, rfl, rfl, gx0⟩, h⟩ := h
  obtain ⟨_, _, _, rfl, ⟨x1, rfl, rfl, gx1⟩, h⟩ := h
  obtain ⟨_, _, _, rfl, ⟨rfl, rfl⟩, h⟩ := h
  obtain ⟨_, _, _, rfl, ⟨rfl, rfl⟩, h⟩ := h
  obtain ⟨rfl, rfl⟩ := h
  have q := sX_bits0 x0 gx0 x1 gx1
  refine ⟨_, .inr ⟨run_enter Tryz.func66 (by kernel_rfl) (by kernel_rfl) _ w, q.1 w⟩, ?_, fun ρ v0 nid j he => ?_⟩
  · have q2 := q.2
    simp [valIn, partIn, cellIn] at q2
    simp [sM_bits0, sF_bits0, sV_bits0, List.flatMap_cons, List.flatMap_nil, Sh.cks, List.append_nil, List.cons_append, List.nil_append, b2i_one, resIn, q2]
  · simp only [sM_bits0, sF_bits0, sV_bits0, List.flatMap_cons, List.flatMap_nil, Sh.cks, List.append_nil, List.cons_append, List.nil_append, b2i_one, eqs, dI, dB, List.getElem?_cons_zero, List.getElem?_cons_succ, Nat.zero_add, Nat.add_zero, Nat.reduceAdd, and_true] at he
    simp [sM_bits0, sF_bits0, sV_bits0, List.flatMap_cons, List.flatMap_nil, Sh.cks, List.append_nil, List.cons_append, List.nil_append, b2i_one, resVof, resParts, resCells, V.den, C.den, denL, den0, den0L, E.I, E.B, he]
def sM_vdo (key : Nat) : Sm := ⟨24, key, [.one (.int .i8), .one (.int .i8), .agg kSc, .agg kSc], [.agg kSc], false⟩
def sV_vdo (op : Int) (l : Int) (a : Sc) (b : Sc) : List Dt := [.z ((vdo op l a b).ul), .z ((vdo op l a b).uh), .z ((vdo op l a b).sl), .z ((vdo op l a b).sh), .z ((vdo op l a b).v), .z ((vdo op l a b).m)]
def sF_vdo : List Dt → List Dt
  | [.z x0, .z x1, .z x2, .z x3, .z x4, .z x5, .z x6, .z x7, .z x8, .z x9, .z x10, .z x11, .z x12, .z x13] => sV_vdo x0 x1 ⟨x2, x3, x4, x5, x6, x7⟩ ⟨x8, x9, x10, x11, x12, x13⟩
  | _ => []
def sT_vdo : Tr :=
(.call 0 ([.int .u64] ++ [.int .i64]) (.vs 0 2 .nil) 14
(.br (.eq (.var 15) (.lit 0))
(.call 1 ([.bool]) (.vs 2 6 .nil) 16
(.br (.bvar 16)
(.call 1 ([.bool]) (.vs 8 6 .nil) 17
(.br (.bvar 17)
(.br (.eq (.var 1) (.lit 64))
(.call 3 (kRg) (.cons (.var 0) (.vs 2 4 (.vs 8 4 .nil))) 18
(.call 4 (kKn) (.vs 0 2 (.vs 6 2 (.vs 12 2 .nil))) 22
(.call 5 (kSc) (.vs 18 6 .nil) 24
(.leaf (.vs 24 6 .nil)))))
(.call 6 (kSc) (.vs 2 6 .nil) 18
(.call 6 (kSc) (.vs 8 6 .nil) 24
(.call 7 (kRg) (.cons (.var 0) (.vs 18 12 .nil)) 30
(.call 4 (kKn) (.vs 0 2 (.vs 22 2 (.vs 28 2 .nil))) 34
(.call 8 (kSc ++ [.bool]) (.vs 30 6 .nil) 36
(.br (.bvar 42)
(.leaf (.vs 36 6 .nil))
(.call 9 (kSc) .nil 43
(.leaf (.vs 43 6 .nil))))))))))
(.call 2 (kSc) .nil 18
(.leaf (.vs 18 6 .nil)))))
(.call 2 (kSc) .nil 17
(.leaf (.vs 17 6 .nil)))))
(.call 2 (kSc) .nil 16
(.leaf (.vs 16 6 .nil)))))
def sP_vdo : Spec := ⟨fun k => match k with | 0 => sF_bits0 | 1 => sF_vmay | 2 => sF_vall | 3 => sF_do | 4 => sF_kdo | 5 => sF_vnard | 6 => sF_vlow | 7 => sF_vhalf | 8 => sF_vnar | 9 => sF_vby4 | _ => fun _ => [], fun k => match k with | _ => fun _ => True⟩
set_option maxRecDepth 100000 in
theorem sR_vdo : treeIs tys_VaC [sM_bits0 0, sM_vmay 1, sM_vall 2, sM_do 3, sM_kdo 4, sM_vnard 5, sM_vlow 6, sM_vhalf 7, sM_vnar 8, sM_vby4 9] [] [] 200 Tryz.f24 [.one (.int .i8), .one (.int .i8), .agg kSc, .agg kSc] [.agg kSc] false [.int .i8, .int .i8, .int .u64, .int .u64, .int .i64, .int .i64, .int .u64, .int .u64, .int .u64, .int .u64, .int .i64, .int .i64, .int .u64, .int .u64] sT_vdo := ⟨by kernel_rfl, by kernel_rfl, by kernel_rfl⟩
set_option maxRecDepth 100000 in
set_option maxHeartbeats 8000000 in
theorem sX_vdo (op : Int) (hop : inK .i8 op = true) (l : Int) (hl : inK .i8 l = true) (a : Sc) (ha : Sc.ok a) (b : Sc) (hb : Sc.ok b) (ρ : Env) (g : varsD ρ 0 [.int .i8, .int .i8, .int .u64, .int .u64, .int .i64, .int .i64, .int .u64, .int .u64, .int .u64, .int .u64, .int .i64, .int .i64, .int .u64, .int .u64] = [.z op, .z l, .z a.ul, .z a.uh, .z a.sl, .z a.sh, .z a.v, .z a.m, .z b.ul, .z b.uh, .z b.sl, .z b.sh, .z b.v, .z b.m]) : sT_vdo.asks sP_vdo (fun ρ e => e.D ρ = sF_vdo [.z op, .z l, .z a.ul, .z a.uh, .z a.sl, .z a.sh, .z a.v, .z a.m, .z b.ul, .z b.uh, .z b.sl, .z b.sh, .z b.v, .z b.m]) ρ fun _ _ => False := by
  simp only [varsD, varD, List.cons.injEq, Dt.z.injEq, Dt.l.injEq, b2i_eq_iff, Nat.reduceAdd, and_true] at g
  simp only [sT_vdo, sP_vdo, kKn, kRg, kSc, sF_bits0, sF_vmay, sF_vall, sF_do, sF_kdo, sF_vnard, sF_vlow, sF_vhalf, sF_vnar, sF_vby4, sV_bits0, sV_vmay, sV_do, sV_kdo, sV_vnard, sV_vlow, sV_vhalf, sV_vnar, sF_vdo, sV_vdo, Tr.asks, upd_same, okDs, okD, eqs, E.I, E.B, E.L, E.R, E.D, E.vs, dI, dB, dL, varD, varsD, List.getElem?_cons_zero, List.getElem?_cons_succ, List.cons_append, List.nil_append, Nat.zero_add, Nat.add_zero, Nat.reduceAdd, and_true, true_and, b2i_one, -eq_self, Kn.eta, Pi.eta, Pu.eta, Rg.eta, Sc.eta, Sc.eta_r, Sc.eta_k, Sc.eta_2, g]
  intro e; (try simp only [e, Kn.eta, Pi.eta, Pu.eta, Rg.eta, Sc.eta, Sc.eta_r, Sc.eta_k, Sc.eta_2, -eq_self]); clear e
  refine ⟨fun c0 => ?_, fun c0 => ?_⟩
  intro e; (try simp only [e, Kn.eta, Pi.eta, Pu.eta, Rg.eta, Sc.eta, Sc.eta_r, Sc.eta_k, Sc.eta_2, -eq_self]); clear e
  refine ⟨fun c1 => ?_, fun c1 => ?_⟩
  intro e; (try simp only [e, Kn.eta, Pi.eta, Pu.eta, Rg.eta, Sc.eta, Sc.eta_r, Sc.eta_k, Sc.eta_2, -eq_self]); clear e
  refine ⟨fun c2 => ?_, fun c2 => ?_⟩
  refine ⟨fun c3 => ?_, fun c3 => ?_⟩
  intro e; (try simp only [e, Kn.eta, Pi.eta, Pu.eta, Rg.eta, Sc.eta, Sc.eta_r, Sc.eta_k, Sc.eta_2, -eq_self]); clear e
  intro e; (try simp only [e, Kn.eta, Pi.eta, Pu.eta, Rg.eta, Sc.eta, Sc.eta_r, Sc.eta_k, Sc.eta_2, -eq_self]); clear e
  intro e; (try simp only [e, Kn.eta, Pi.eta, Pu.eta, Rg.eta, Sc.eta, Sc.eta_r, Sc.eta_k, Sc.eta_2, -eq_self]); clear e
  (obtain rfl := eqz c3; have hk := ok_of c0; rw [show vdo op 64 a b = vnar (sc (bdo op a.r b.r) (kdo op 64 a.k b.k)) from by unfold vdo; simp [hk, c1, c2]]; try rfl)
  intro e; (try simp only [e, Kn.eta, Pi.eta, Pu.eta, Rg.eta, Sc.eta, Sc.eta_r, Sc.eta_k, Sc.eta_2, -eq_self]); clear e
  intro e; (try simp only [e, Kn.eta, Pi.eta, Pu.eta, Rg.eta, Sc.eta, Sc.eta_r, Sc.eta_k, Sc.eta_2, -eq_self]); clear e
  intro e; (try simp only [e, Kn.eta, Pi.eta, Pu.eta, Rg.eta, Sc.eta, Sc.eta_r, Sc.eta_k, Sc.eta_2, -eq_self]); clear e
  intro e; (try simp only [e, Kn.eta, Pi.eta, Pu.eta, Rg.eta, Sc.eta, Sc.eta_r, Sc.eta_k, Sc.eta_2, -eq_self]); clear e
  intro e; (try simp only [e, Kn.eta, Pi.eta, Pu.eta, Rg.eta, Sc.eta, Sc.eta_r, Sc.eta_k, Sc.eta_2, -eq_self]); clear e
  refine ⟨fun c4 => ?_, fun c4 => ?_⟩
  (have n := nez c3; have hk := ok_of c0; have c5 : vnok (vhf op l a b) = true := c4; rw [show vdo op l a b = vnar (vhf op l a b) from by unfold vdo; simp [hk, c1, c2, n, c5]]; try rfl)
  intro e; (try simp only [e, Kn.eta, Pi.eta, Pu.eta, Rg.eta, Sc.eta, Sc.eta_r, Sc.eta_k, Sc.eta_2, -eq_self]); clear e
  (have n := nez c3; have hk := ok_of c0; have c5 : vnok (vhf op l a b) = false := c4; rw [show vdo op l a b = vbel 4294967295 from by unfold vdo; simp [hk, c1, c2, n, c5]]; try rfl)
  intro e; (try simp only [e, Kn.eta, Pi.eta, Pu.eta, Rg.eta, Sc.eta, Sc.eta_r, Sc.eta_k, Sc.eta_2, -eq_self]); clear e
  (rw [show vdo op l a b = vall from by unfold vdo; simp [c2]]; try rfl)
  intro e; (try simp only [e, Kn.eta, Pi.eta, Pu.eta, Rg.eta, Sc.eta, Sc.eta_r, Sc.eta_k, Sc.eta_2, -eq_self]); clear e
  (rw [show vdo op l a b = vall from by unfold vdo; simp [c1]]; try rfl)
  intro e; (try simp only [e, Kn.eta, Pi.eta, Pu.eta, Rg.eta, Sc.eta, Sc.eta_r, Sc.eta_k, Sc.eta_2, -eq_self]); clear e
  (have hk := nok_of c0; rw [show vdo op l a b = vall from by unfold vdo; simp [hk]]; try rfl)
theorem sK_vdo {sp : Spec} {key : Nat} (hF : sp.F key = sF_vdo) (hP : sp.pre key = fun _ => True := by rfl) : SmOk Tryz.prog sp (sM_vdo key) :=
  fun_ok (s := sM_vdo key) hF hP (by kernel_rfl) tysok_VaC (smc (sK_bits0 rfl) (smc (sK_vmay rfl) (smc (sK_vall rfl) (smc (sK_do rfl) (smc (sK_kdo rfl) (smc (sK_vnard rfl) (smc (sK_vlow rfl) (smc (sK_vhalf rfl) (smc (sK_vnar rfl) (smc (sK_vby4 rfl) sm0)))))))))) Tryz.func24 sR_vdo (.inl rfl) (fun x0 gx0 x1 gx1 x2 gx2 x3 gx3 x4 gx4 x5 gx5 x6 gx6 x7 gx7 x8 gx8 x9 gx9 x10 gx10 x11 gx11 x12 gx12 x13 gx13 hp ρ g => sX_vdo x0 gx0 x1 gx1 ⟨x2, x3, x4, x5, x6, x7⟩ ⟨gx2, gx3, gx4, gx5, gx6, gx7⟩ ⟨x8, x9, x10, x11, x12, x13⟩ ⟨gx8, gx9, gx10, gx11, gx12, gx13⟩ ρ g)
def sM_vgiv (key : Nat) : Sm := ⟨6, key, [.one (.int .i8), .agg kSc, .agg kSc], [.agg kSc, .one .bool], true⟩
def sV_vgiv (cc : Int) (a : Sc) (b : Sc) : List Dt := [.z ((vgiv cc a b).ul), .z ((vgiv cc a b).uh), .z ((vgiv cc a b).sl), .z ((vgiv cc a b).sh), .z ((vgiv cc a b).v), .z ((vgiv cc a b).m), .z (b2i (vgok cc a b))]
def sF_vgiv : List Dt → List Dt
  | [.z x0, .z x1, .z x2, .z x3, .z x4, .z x5, .z x6, .z x7, .z x8, .z x9, .z x10, .z x11, .z x12] => sV_vgiv x0 ⟨x1, x2, x3, x4, x5, x6⟩ ⟨x7, x8, x9, x10, x11, x12⟩
  | _ => []
def sT_vgiv : Tr :=
(.call 0 ([.bool]) (.vs 1 6 .nil) 13
(.br (.bvar 13)
(.call 0 ([.bool]) (.vs 7 6 .nil) 14
(.br (.bvar 14)
(.call 2 (kRg ++ [.bool]) (.vs 0 5 (.vs 7 4 .nil)) 15
(.br (.bvar 19)
(.br (.eq (.var 0) (.lit 0))
(.call 3 (kKn ++ [.bool]) (.vs 5 2 (.vs 11 2 .nil)) 20
(.br (.bvar 22)
(.call 4 (kSc ++ [.bool]) (.vs 15 4 (.vs 20 2 .nil)) 23
(.leaf (.vs 23 6 (.consb (.bvar 29) .nil))))
(.call 1 (kSc) .nil 23
(.leaf (.vs 23 6 (.consb (.tt false) .nil))))))
(.call 4 (kSc ++ [.bool]) (.vs 15 4 (.vs 5 2 .nil)) 20
(.leaf (.vs 20 6 (.consb (.bvar 26) .nil)))))
(.call 1 (kSc) .nil 20
(.leaf (.vs 20 6 (.consb (.tt false) .nil))))))
(.call 1 (kSc) .nil 15
(.leaf (.vs 15 6 (.consb (.tt false) .nil))))))
(.call 1 (kSc) .nil 14
(.leaf (.vs 14 6 (.consb (.tt false) .nil))))))
def sP_vgiv : Spec := ⟨fun k => match k with | 0 => sF_vmay | 1 => sF_vall | 2 => sF_given | 3 => sF_kmeet | 4 => sF_vnar | _ => fun _ => [], fun k => match k with | _ => fun _ => True⟩
set_option maxRecDepth 100000 in
theorem sR_vgiv : treeIs tys_VaC [sM_vmay 0, sM_vall 1, sM_given 2, sM_kmeet 3, sM_vnar 4] [] [] 200 Tryz.f6 [.one (.int .i8), .agg kSc, .agg kSc] [.agg kSc, .one .bool] true [.int .i8, .int .u64, .int .u64, .int .i64, .int .i64, .int .u64, .int .u64, .int .u64, .int .u64, .int .i64, .int .i64, .int .u64, .int .u64] sT_vgiv := ⟨by kernel_rfl, by kernel_rfl, by kernel_rfl⟩
set_option maxRecDepth 100000 in
set_option maxHeartbeats 8000000 in
theorem sX_vgiv (cc : Int) (hcc : inK .i8 cc = true) (a : Sc) (ha : Sc.ok a) (b : Sc) (hb : Sc.ok b) (ρ : Env) (g : varsD ρ 0 [.int .i8, .int .u64, .int .u64, .int .i64, .int .i64, .int .u64, .int .u64, .int .u64, .int .u64, .int .i64, .int .i64, .int .u64, .int .u64] = [.z cc, .z a.ul, .z a.uh, .z a.sl, .z a.sh, .z a.v, .z a.m, .z b.ul, .z b.uh, .z b.sl, .z b.sh, .z b.v, .z b.m]) : sT_vgiv.asks sP_vgiv (fun ρ e => e.D ρ = sF_vgiv [.z cc, .z a.ul, .z a.uh, .z a.sl, .z a.sh, .z a.v, .z a.m, .z b.ul, .z b.uh, .z b.sl, .z b.sh, .z b.v, .z b.m]) ρ fun _ _ => False := by
  simp only [varsD, varD, List.cons.injEq, Dt.z.injEq, Dt.l.injEq, b2i_eq_iff, Nat.reduceAdd, and_true] at g
  simp only [sT_vgiv, sP_vgiv, kKn, kRg, kSc, sF_vmay, sF_vall, sF_given, sF_kmeet, sF_vnar, sV_vmay, sV_given, sV_kmeet, sV_vnar, sF_vgiv, sV_vgiv, Tr.asks, upd_same, okDs, okD, eqs, E.I, E.B, E.L, E.R, E.D, E.vs, dI, dB, dL, varD, varsD, List.getElem?_cons_zero, List.getElem?_cons_succ, List.cons_append, List.nil_append, Nat.zero_add, Nat.add_zero, Nat.reduceAdd, and_true, true_and, b2i_one, -eq_self, Kn.eta, Pi.eta, Pu.eta, Rg.eta, Sc.eta, Sc.eta_r, Sc.eta_k, Sc.eta_2, g]
  intro e; (try simp only [e, Kn.eta, Pi.eta, Pu.eta, Rg.eta, Sc.eta, Sc.eta_r, Sc.eta_k, Sc.eta_2, -eq_self]); clear e
  refine ⟨fun c0 => ?_, fun c0 => ?_⟩
  intro e; (try simp only [e, Kn.eta, Pi.eta, Pu.eta, Rg.eta, Sc.eta, Sc.eta_r, Sc.eta_k, Sc.eta_2, -eq_self]); clear e
  refine ⟨fun c1 => ?_, fun c1 => ?_⟩
  intro e; (try simp only [e, Kn.eta, Pi.eta, Pu.eta, Rg.eta, Sc.eta, Sc.eta_r, Sc.eta_k, Sc.eta_2, -eq_self]); clear e
  refine ⟨fun c2 => ?_, fun c2 => ?_⟩
  refine ⟨fun c3 => ?_, fun c3 => ?_⟩
  intro e; (try simp only [e, Kn.eta, Pi.eta, Pu.eta, Rg.eta, Sc.eta, Sc.eta_r, Sc.eta_k, Sc.eta_2, -eq_self]); clear e
  refine ⟨fun c4 => ?_, fun c4 => ?_⟩
  intro e; (try simp only [e, Kn.eta, Pi.eta, Pu.eta, Rg.eta, Sc.eta, Sc.eta_r, Sc.eta_k, Sc.eta_2, -eq_self]); clear e
  (have q := vg_0 c0 c1 c2 c3 c4; rw [q.1, q.2]; try rfl)
  intro e; (try simp only [e, Kn.eta, Pi.eta, Pu.eta, Rg.eta, Sc.eta, Sc.eta_r, Sc.eta_k, Sc.eta_2, -eq_self]); clear e
  (have q := vg_f (cc := cc) (a := a) (b := b) (.inr (.inr (.inr ⟨c3, c4⟩))); rw [q.1, q.2]; try rfl)
  intro e; (try simp only [e, Kn.eta, Pi.eta, Pu.eta, Rg.eta, Sc.eta, Sc.eta_r, Sc.eta_k, Sc.eta_2, -eq_self]); clear e
  (have q := vg_n c0 c1 c2 c3; rw [q.1, q.2]; try rfl)
  intro e; (try simp only [e, Kn.eta, Pi.eta, Pu.eta, Rg.eta, Sc.eta, Sc.eta_r, Sc.eta_k, Sc.eta_2, -eq_self]); clear e
  (have q := vg_f (cc := cc) (a := a) (b := b) (.inr (.inr (.inl c2))); rw [q.1, q.2]; try rfl)
  intro e; (try simp only [e, Kn.eta, Pi.eta, Pu.eta, Rg.eta, Sc.eta, Sc.eta_r, Sc.eta_k, Sc.eta_2, -eq_self]); clear e
  (have q := vg_f (cc := cc) (a := a) (b := b) (.inr (.inl c1)); rw [q.1, q.2]; try rfl)
  intro e; (try simp only [e, Kn.eta, Pi.eta, Pu.eta, Rg.eta, Sc.eta, Sc.eta_r, Sc.eta_k, Sc.eta_2, -eq_self]); clear e
  (have q := vg_f (cc := cc) (a := a) (b := b) (.inl c0); rw [q.1, q.2]; try rfl)
theorem sK_vgiv {sp : Spec} {key : Nat} (hF : sp.F key = sF_vgiv) (hP : sp.pre key = fun _ => True := by rfl) : SmOk Tryz.prog sp (sM_vgiv key) :=
  fun_ok (s := sM_vgiv key) hF hP (by kernel_rfl) tysok_VaC (smc (sK_vmay rfl) (smc (sK_vall rfl) (smc (sK_given rfl) (smc (sK_kmeet rfl) (smc (sK_vnar rfl) sm0))))) Tryz.func6 sR_vgiv (.inl rfl) (fun x0 gx0 x1 gx1 x2 gx2 x3 gx3 x4 gx4 x5 gx5 x6 gx6 x7 gx7 x8 gx8 x9 gx9 x10 gx10 x11 gx11 x12 gx12 hp ρ g => sX_vgiv x0 gx0 ⟨x1, x2, x3, x4, x5, x6⟩ ⟨gx1, gx2, gx3, gx4, gx5, gx6⟩ ⟨x7, x8, x9, x10, x11, x12⟩ ⟨gx7, gx8, gx9, gx10, gx11, gx12⟩ ρ g)
def sM_vwakes (key : Nat) : Sm := ⟨28, key, [], [.one .bool], false⟩
def sF_vwakes : List Dt → List Dt
  | [] => [.z (b2i true)]
  | _ => []
def sT_vwakes : Tr :=
(.call 0 (kSc) .nil 0
(.call 1 (kSc) (.cons (.lit 7) .nil) 6
(.call 2 (kSc) (.cons (.lit 5) (.cons (.lit 64) (.vs 0 12 .nil))) 12
(.call 3 (kSc) .nil 18
(.br (.eq (.var 12) (.lit 0))
(.br (.eq (.var 13) (.lit 7))
(.br (.eq (.var 19) (.lit 65535))
(.call 4 ([.bool]) (.vs 18 6 (.cons (.lit 65535) .nil)) 24
(.br (.bvar 24)
(.call 4 ([.bool]) (.vs 18 6 (.cons (.lit 65536) .nil)) 25
(.leaf (.consb (.not (.bvar 25)) .nil)))
(.leaf (.consb (.tt false) .nil))))
(.leaf (.consb (.tt false) .nil)))
(.leaf (.consb (.tt false) .nil)))
(.leaf (.consb (.tt false) .nil)))))))
def sP_vwakes : Spec := ⟨fun k => match k with | 0 => sF_vall | 1 => sF_vone | 2 => sF_vdo | 3 => sF_vby2 | 4 => sF_vhas | _ => fun _ => [], fun k => match k with | _ => fun _ => True⟩
set_option maxRecDepth 100000 in
theorem sR_vwakes : treeIs tys_VaC [sM_vall 0, sM_vone 1, sM_vdo 2, sM_vby2 3, sM_vhas 4] [] [] 200 Tryz.f28 [] [.one .bool] false [] sT_vwakes := ⟨by kernel_rfl, by kernel_rfl, by kernel_rfl⟩
set_option maxRecDepth 100000 in
set_option maxHeartbeats 8000000 in
theorem sX_vwakes  (ρ : Env) (g : varsD ρ 0 [] = []) : sT_vwakes.asks sP_vwakes (fun ρ e => e.D ρ = sF_vwakes []) ρ fun _ _ => False := by
  simp only [sT_vwakes, sP_vwakes, kSc, sF_vall, sF_vone, sF_vdo, sF_vby2, sF_vhas, sV_vone, sV_vdo, sV_vhas, sF_vwakes, Tr.asks, upd_same, okDs, okD, eqs, E.I, E.B, E.L, E.R, E.D, E.vs, dI, dB, dL, varD, varsD, List.getElem?_cons_zero, List.getElem?_cons_succ, List.cons_append, List.nil_append, Nat.zero_add, Nat.add_zero, Nat.reduceAdd, and_true, true_and, b2i_one, -eq_self, Kn.eta, Pi.eta, Pu.eta, Rg.eta, Sc.eta, Sc.eta_r, Sc.eta_k, Sc.eta_2]
  intro e; (try simp only [e, Kn.eta, Pi.eta, Pu.eta, Rg.eta, Sc.eta, Sc.eta_r, Sc.eta_k, Sc.eta_2, -eq_self]); clear e
  intro e; (try simp only [e, Kn.eta, Pi.eta, Pu.eta, Rg.eta, Sc.eta, Sc.eta_r, Sc.eta_k, Sc.eta_2, -eq_self]); clear e
  intro e; (try simp only [e, Kn.eta, Pi.eta, Pu.eta, Rg.eta, Sc.eta, Sc.eta_r, Sc.eta_k, Sc.eta_2, -eq_self]); clear e
  intro e; (try simp only [e, Kn.eta, Pi.eta, Pu.eta, Rg.eta, Sc.eta, Sc.eta_r, Sc.eta_k, Sc.eta_2, -eq_self]); clear e
  refine ⟨fun c0 => ?_, fun c0 => ?_⟩
  refine ⟨fun c1 => ?_, fun c1 => ?_⟩
  refine ⟨fun c2 => ?_, fun c2 => ?_⟩
  intro e; (try simp only [e, Kn.eta, Pi.eta, Pu.eta, Rg.eta, Sc.eta, Sc.eta_r, Sc.eta_k, Sc.eta_2, -eq_self]); clear e
  refine ⟨fun c3 => ?_, fun c3 => ?_⟩
  intro e; (try simp only [e, Kn.eta, Pi.eta, Pu.eta, Rg.eta, Sc.eta, Sc.eta_r, Sc.eta_k, Sc.eta_2, -eq_self]); clear e
  (first | rfl | exact zb (by decide +kernel) | (exfalso; revert c0 c1 c2 c3; decide +kernel))
  (first | rfl | exact zb (by decide +kernel) | (exfalso; revert c0 c1 c2 c3; decide +kernel))
  (first | rfl | exact zb (by decide +kernel) | (exfalso; revert c0 c1 c2; decide +kernel))
  (first | rfl | exact zb (by decide +kernel) | (exfalso; revert c0 c1; decide +kernel))
  (first | rfl | exact zb (by decide +kernel) | (exfalso; revert c0; decide +kernel))
theorem sK_vwakes {sp : Spec} {key : Nat} (hF : sp.F key = sF_vwakes) (hP : sp.pre key = fun _ => True := by rfl) : SmOk Tryz.prog sp (sM_vwakes key) :=
  fun_ok (s := sM_vwakes key) hF hP (by kernel_rfl) tysok_VaC (smc (sK_vall rfl) (smc (sK_vone rfl) (smc (sK_vdo rfl) (smc (sK_vby2 rfl) (smc (sK_vhas rfl) sm0))))) Tryz.func28 sR_vwakes (.inl rfl) (fun  hp ρ g => sX_vwakes ρ g)
end Go.Proofs.YtcfnglbcgkappaaGreat
