/- Contracts of package value, by the symbolic run. -/
import Derived.Test.YtcfnglbcgkappaaGreatVaA
import Derived.Test.YtcfnglbcgkappaaGreatProg
import Derived.Laws.Externs
set_option linter.unusedVariables false
set_option linter.unusedSimpArgs false
namespace Go.Proofs.YtcfnglbcgkappaaGreat
open Go.RowKit Go.ChangeShapes Go.WideShapes

def tys_VaB : List (Nat × TI) := [(2, ⟨false, 1, [.int .i64 (.lit 0)], [], none, some .i64, false, false, none, 8, false⟩),
 (3, ⟨false, 1, [.int .i64 (.lit 0)], [], none, some .i64, false, false, none, 8, false⟩),
 (22, ⟨false, 1, [.int .i8 (.lit 0)], [], none, some .i8, false, false, none, 1, false⟩),
 (23, ⟨false, 1, [.int .u64 (.lit 0)], [], none, some .u64, false, false, none, 8, false⟩),
 (25, ⟨true, 4, [.int .u64 (.lit 0), .int .u64 (.lit 0), .int .i64 (.lit 0), .int .i64 (.lit 0)], [(0, 23), (1, 23), (2, 2), (3, 2)], none, none, false, false, none, 32, false⟩),
 (27, ⟨true, 2, [.int .u64 (.lit 0), .int .u64 (.lit 0)], [(0, 23), (1, 23)], none, none, false, false, none, 16, false⟩),
 (29, ⟨true, 6, [.int .u64 (.lit 0), .int .u64 (.lit 0), .int .i64 (.lit 0), .int .i64 (.lit 0), .int .u64 (.lit 0), .int .u64 (.lit 0)], [(0, 25), (4, 27)], none, none, false, false, none, 48, false⟩)]
set_option maxRecDepth 100000 in
theorem tysck_VaB : (tys_VaB.all fun p => ckTI Tryz.prog p.1 p.2) = true := by kernel_rfl
theorem tysne_VaB : (tys_VaB.all fun p => !p.2.eqok) = true := by kernel_rfl
theorem tysok_VaB : ∀ t i, (t, i) ∈ tys_VaB → TIok Tryz.prog t i := by
  intro t i h
  have h1 := all_at (f := fun _ i => !i.eqok) tysne_VaB h
  exact TIok_of (all_at (f := ckTI Tryz.prog) tysck_VaB h) (fun he => by simp [he] at h1) (fun he => by simp [he] at h1)
def sM_vcom (key : Nat) : Sm := ⟨32, key, [.agg kRg], [.agg kKn], false⟩
def sV_vcom (a : Rg) : List Dt := [.z ((kcom a).v), .z ((kcom a).m)]
def sF_vcom : List Dt → List Dt
  | [.z x0, .z x1, .z x2, .z x3] => sV_vcom ⟨x0, x1, x2, x3⟩
  | _ => []
def sT_vcom : Tr :=
(.call 0 ([.int .i64]) (.cons (.bin .xor .u64 (.var 0) (.var 1)) .nil) 4
(.br (.lt (.lit 0) (.var 4))
(.br (.lt (.bin .sub .i64 (.lit 64) (.var 4)) (.lit 0))
.panic
(.leaf (.cons (.bin .andNot .u64 (.var 0) (.bin .sub .u64 (.bin .shl .u64 (.lit 1) (.bin .sub .i64 (.lit 64) (.var 4))) (.lit 1))) (.cons (.bin .sub .u64 (.bin .shl .u64 (.lit 1) (.bin .sub .i64 (.lit 64) (.var 4))) (.lit 1)) .nil))))
(.leaf (.cons (.bin .andNot .u64 (.var 0) (.lit 18446744073709551615)) (.cons (.lit 18446744073709551615) .nil)))))
def sP_vcom : Spec := ⟨fun k => match k with | 0 => sF_lz | _ => fun _ => [], fun k => match k with | _ => fun _ => True⟩
set_option maxRecDepth 100000 in
theorem sR_vcom : treeIs tys_VaB [sM_lz 0] [] [] 200 Tryz.f32 [.agg kRg] [.agg kKn] false [.int .u64, .int .u64, .int .i64, .int .i64] sT_vcom := ⟨by kernel_rfl, by kernel_rfl, by kernel_rfl⟩
set_option maxRecDepth 100000 in
set_option maxHeartbeats 8000000 in
theorem sX_vcom (a : Rg) (ha : Rg.ok a) (ρ : Env) (g : varsD ρ 0 [.int .u64, .int .u64, .int .i64, .int .i64] = [.z a.ul, .z a.uh, .z a.sl, .z a.sh]) : sT_vcom.asks sP_vcom (fun ρ e => e.D ρ = sF_vcom [.z a.ul, .z a.uh, .z a.sl, .z a.sh]) ρ fun _ _ => False := by
  simp only [varsD, varD, List.cons.injEq, Dt.z.injEq, Dt.l.injEq, b2i_eq_iff, Nat.reduceAdd, and_true] at g
  simp only [sT_vcom, sP_vcom, sF_lz, sV_lz, sF_vcom, sV_vcom, Tr.asks, upd_same, okDs, okD, eqs, E.I, E.B, E.L, E.R, E.D, E.vs, dI, dB, dL, varD, varsD, List.getElem?_cons_zero, List.getElem?_cons_succ, List.cons_append, List.nil_append, Nat.zero_add, Nat.add_zero, Nat.reduceAdd, and_true, true_and, b2i_one, -eq_self, Kn.eta, Pi.eta, Pu.eta, Rg.eta, Sc.eta, Sc.eta_r, Sc.eta_k, Sc.eta_2, g]
  intro e; (try simp only [e, Kn.eta, Pi.eta, Pu.eta, Rg.eta, Sc.eta, Sc.eta_r, Sc.eta_k, Sc.eta_2, -eq_self]); clear e
  refine ⟨fun c0 => ?_, fun c0 => ?_⟩
  refine ⟨fun c1 => ?_, fun c1 => ?_⟩
  show False
  (have hx := xor_bd a.ul a.uh; have hb : blenN (bits .xor .u64 a.ul a.uh).toNat ≤ 64 := blen_le (by omega); have h1 : IntKind.i64.wrap (64 - (64 - (blenN (bits .xor .u64 a.ul a.uh).toNat : Int))) < 0 := of_decide_eq_true c1; rw [w_i64] at h1; omega)
  exact agg_Kn (kcom_t (Rg.wf_of ha))
  exact agg_Kn (kcom_f (Rg.wf_of ha) c0)
theorem sK_vcom {sp : Spec} {key : Nat} (hF : sp.F key = sF_vcom) (hP : sp.pre key = fun _ => True := by rfl) : SmOk Tryz.prog sp (sM_vcom key) :=
  fun_ok (s := sM_vcom key) hF hP (by kernel_rfl) tysok_VaB (smc (sK_lz rfl) sm0) Tryz.func32 sR_vcom (.inl rfl) (fun x0 gx0 x1 gx1 x2 gx2 x3 gx3 hp ρ g => sX_vcom ⟨x0, x1, x2, x3⟩ ⟨gx0, gx1, gx2, gx3⟩ ρ g)
def sM_vnar (key : Nat) : Sm := ⟨4, key, [.agg kSc], [.agg kSc, .one .bool], true⟩
def sV_vnar (a : Sc) : List Dt := [.z ((vnar a).ul), .z ((vnar a).uh), .z ((vnar a).sl), .z ((vnar a).sh), .z ((vnar a).v), .z ((vnar a).m), .z (b2i (vnok a))]
def sF_vnar : List Dt → List Dt
  | [.z x0, .z x1, .z x2, .z x3, .z x4, .z x5] => sV_vnar ⟨x0, x1, x2, x3, x4, x5⟩
  | _ => []
def sT_vnar : Tr :=
(.call 0 ([.bool]) (.vs 0 6 .nil) 6
(.br (.bvar 6)
(.call 2 (kRg) .nil 7
(.call 3 (kRg ++ [.bool]) (.vs 0 5 (.cons (.bin .or .u64 (.var 4) (.var 5)) (.vs 9 2 .nil))) 11
(.br (.bvar 15)
(.call 5 (kKn) (.vs 11 4 .nil) 16
(.call 4 (kKn ++ [.bool]) (.vs 4 2 (.vs 16 2 .nil)) 18
(.br (.bvar 20)
(.call 3 (kRg ++ [.bool]) (.vs 11 4 (.cons (.var 18) (.cons (.bin .or .u64 (.var 18) (.var 19)) (.vs 9 2 .nil)))) 21
(.br (.bvar 25)
(.call 5 (kKn) (.vs 21 4 .nil) 26
(.call 4 (kKn ++ [.bool]) (.vs 18 2 (.vs 26 2 .nil)) 28
(.br (.bvar 30)
(.leaf (.vs 21 4 (.vs 28 2 (.consb (.tt true) .nil))))
(.call 1 (kSc) .nil 31
(.leaf (.vs 31 6 (.consb (.tt false) .nil)))))))
(.call 1 (kSc) .nil 26
(.leaf (.vs 26 6 (.consb (.tt false) .nil))))))
(.call 1 (kSc) .nil 21
(.leaf (.vs 21 6 (.consb (.tt false) .nil)))))))
(.call 1 (kSc) .nil 16
(.leaf (.vs 16 6 (.consb (.tt false) .nil)))))))
(.call 1 (kSc) .nil 7
(.leaf (.vs 7 6 (.consb (.tt false) .nil))))))
def sP_vnar : Spec := ⟨fun k => match k with | 0 => sF_vmay | 1 => sF_vall | 2 => sF_all | 3 => sF_meet | 4 => sF_kmeet | 5 => sF_vcom | _ => fun _ => [], fun k => match k with | _ => fun _ => True⟩
set_option maxRecDepth 100000 in
theorem sR_vnar : treeIs tys_VaB [sM_vmay 0, sM_vall 1, sM_all 2, sM_meet 3, sM_kmeet 4, sM_vcom 5] [] [] 200 Tryz.f4 [.agg kSc] [.agg kSc, .one .bool] true [.int .u64, .int .u64, .int .i64, .int .i64, .int .u64, .int .u64] sT_vnar := ⟨by kernel_rfl, by kernel_rfl, by kernel_rfl⟩
set_option maxRecDepth 100000 in
set_option maxHeartbeats 8000000 in
theorem sX_vnar (a : Sc) (ha : Sc.ok a) (ρ : Env) (g : varsD ρ 0 [.int .u64, .int .u64, .int .i64, .int .i64, .int .u64, .int .u64] = [.z a.ul, .z a.uh, .z a.sl, .z a.sh, .z a.v, .z a.m]) : sT_vnar.asks sP_vnar (fun ρ e => e.D ρ = sF_vnar [.z a.ul, .z a.uh, .z a.sl, .z a.sh, .z a.v, .z a.m]) ρ fun _ _ => False := by
  simp only [varsD, varD, List.cons.injEq, Dt.z.injEq, Dt.l.injEq, b2i_eq_iff, Nat.reduceAdd, and_true] at g
  simp only [sT_vnar, sP_vnar, kKn, kRg, kSc, sF_vmay, sF_vall, sF_all, sF_meet, sF_kmeet, sF_vcom, sV_vmay, sV_meet, sV_kmeet, sV_vcom, sF_vnar, sV_vnar, Tr.asks, upd_same, okDs, okD, eqs, E.I, E.B, E.L, E.R, E.D, E.vs, dI, dB, dL, varD, varsD, List.getElem?_cons_zero, List.getElem?_cons_succ, List.cons_append, List.nil_append, Nat.zero_add, Nat.add_zero, Nat.reduceAdd, and_true, true_and, b2i_one, -eq_self, Kn.eta, Pi.eta, Pu.eta, Rg.eta, Sc.eta, Sc.eta_r, Sc.eta_k, Sc.eta_2, g]
  intro e; (try simp only [e, Kn.eta, Pi.eta, Pu.eta, Rg.eta, Sc.eta, Sc.eta_r, Sc.eta_k, Sc.eta_2, -eq_self]); clear e
  refine ⟨fun c0 => ?_, fun c0 => ?_⟩
  intro e; (try simp only [e, Kn.eta, Pi.eta, Pu.eta, Rg.eta, Sc.eta, Sc.eta_r, Sc.eta_k, Sc.eta_2, -eq_self]); clear e
  intro e; (try simp only [e, Kn.eta, Pi.eta, Pu.eta, Rg.eta, Sc.eta, Sc.eta_r, Sc.eta_k, Sc.eta_2, -eq_self]); clear e
  refine ⟨fun c1 => ?_, fun c1 => ?_⟩
  intro e; (try simp only [e, Kn.eta, Pi.eta, Pu.eta, Rg.eta, Sc.eta, Sc.eta_r, Sc.eta_k, Sc.eta_2, -eq_self]); clear e
  intro e; (try simp only [e, Kn.eta, Pi.eta, Pu.eta, Rg.eta, Sc.eta, Sc.eta_r, Sc.eta_k, Sc.eta_2, -eq_self]); clear e
  refine ⟨fun c2 => ?_, fun c2 => ?_⟩
  intro e; (try simp only [e, Kn.eta, Pi.eta, Pu.eta, Rg.eta, Sc.eta, Sc.eta_r, Sc.eta_k, Sc.eta_2, -eq_self]); clear e
  refine ⟨fun c3 => ?_, fun c3 => ?_⟩
  intro e; (try simp only [e, Kn.eta, Pi.eta, Pu.eta, Rg.eta, Sc.eta, Sc.eta_r, Sc.eta_k, Sc.eta_2, -eq_self]); clear e
  intro e; (try simp only [e, Kn.eta, Pi.eta, Pu.eta, Rg.eta, Sc.eta, Sc.eta_r, Sc.eta_k, Sc.eta_2, -eq_self]); clear e
  refine ⟨fun c4 => ?_, fun c4 => ?_⟩
  (have q := vn_t (a := a) c0 c1 c2 c3 c4; rw [q.1, q.2]; try rfl)
  intro e; (try simp only [e, Kn.eta, Pi.eta, Pu.eta, Rg.eta, Sc.eta, Sc.eta_r, Sc.eta_k, Sc.eta_2, -eq_self]); clear e
  (have q := vn_f (a := a) (.inr (.inr (.inr (.inr (c4))))); rw [q.1, q.2]; try rfl)
  intro e; (try simp only [e, Kn.eta, Pi.eta, Pu.eta, Rg.eta, Sc.eta, Sc.eta_r, Sc.eta_k, Sc.eta_2, -eq_self]); clear e
  (have q := vn_f (a := a) (.inr (.inr (.inr (.inl c3)))); rw [q.1, q.2]; try rfl)
  intro e; (try simp only [e, Kn.eta, Pi.eta, Pu.eta, Rg.eta, Sc.eta, Sc.eta_r, Sc.eta_k, Sc.eta_2, -eq_self]); clear e
  (have q := vn_f (a := a) (.inr (.inr (.inl c2))); rw [q.1, q.2]; try rfl)
  intro e; (try simp only [e, Kn.eta, Pi.eta, Pu.eta, Rg.eta, Sc.eta, Sc.eta_r, Sc.eta_k, Sc.eta_2, -eq_self]); clear e
  (have q := vn_f (a := a) (.inr (.inl c1)); rw [q.1, q.2]; try rfl)
  intro e; (try simp only [e, Kn.eta, Pi.eta, Pu.eta, Rg.eta, Sc.eta, Sc.eta_r, Sc.eta_k, Sc.eta_2, -eq_self]); clear e
  (have q := vn_f (a := a) (.inl c0); rw [q.1, q.2]; try rfl)
theorem sK_vnar {sp : Spec} {key : Nat} (hF : sp.F key = sF_vnar) (hP : sp.pre key = fun _ => True := by rfl) : SmOk Tryz.prog sp (sM_vnar key) :=
  fun_ok (s := sM_vnar key) hF hP (by kernel_rfl) tysok_VaB (smc (sK_vmay rfl) (smc (sK_vall rfl) (smc (sK_all rfl) (smc (sK_meet rfl) (smc (sK_kmeet rfl) (smc (sK_vcom rfl) sm0)))))) Tryz.func4 sR_vnar (.inl rfl) (fun x0 gx0 x1 gx1 x2 gx2 x3 gx3 x4 gx4 x5 gx5 hp ρ g => sX_vnar ⟨x0, x1, x2, x3, x4, x5⟩ ⟨gx0, gx1, gx2, gx3, gx4, gx5⟩ ρ g)
def sM_vnard (key : Nat) : Sm := ⟨67, key, [.agg kSc], [.agg kSc], false⟩
def sV_vnard (a : Sc) : List Dt := [.z ((vnar a).ul), .z ((vnar a).uh), .z ((vnar a).sl), .z ((vnar a).sh), .z ((vnar a).v), .z ((vnar a).m)]
def sF_vnard : List Dt → List Dt
  | [.z x0, .z x1, .z x2, .z x3, .z x4, .z x5] => sV_vnard ⟨x0, x1, x2, x3, x4, x5⟩
  | _ => []
def sT_vnard : Tr :=
(.call 0 (kSc ++ [.bool]) (.vs 0 6 .nil) 6
(.leaf (.vs 6 6 .nil)))
def sP_vnard : Spec := ⟨fun k => match k with | 0 => sF_vnar | _ => fun _ => [], fun k => match k with | _ => fun _ => True⟩
set_option maxRecDepth 100000 in
theorem sR_vnard : treeIs tys_VaB [sM_vnar 0] [] [] 200 Tryz.f67 [.agg kSc] [.agg kSc] false [.int .u64, .int .u64, .int .i64, .int .i64, .int .u64, .int .u64] sT_vnard := ⟨by kernel_rfl, by kernel_rfl, by kernel_rfl⟩
set_option maxRecDepth 100000 in
set_option maxHeartbeats 8000000 in
theorem sX_vnard (a : Sc) (ha : Sc.ok a) (ρ : Env) (g : varsD ρ 0 [.int .u64, .int .u64, .int .i64, .int .i64, .int .u64, .int .u64] = [.z a.ul, .z a.uh, .z a.sl, .z a.sh, .z a.v, .z a.m]) : sT_vnard.asks sP_vnard (fun ρ e => e.D ρ = sF_vnard [.z a.ul, .z a.uh, .z a.sl, .z a.sh, .z a.v, .z a.m]) ρ fun _ _ => False := by
  simp only [varsD, varD, List.cons.injEq, Dt.z.injEq, Dt.l.injEq, b2i_eq_iff, Nat.reduceAdd, and_true] at g
  simp only [sT_vnard, sP_vnard, kSc, sF_vnar, sV_vnar, sF_vnard, sV_vnard, Tr.asks, upd_same, okDs, okD, eqs, E.I, E.B, E.L, E.R, E.D, E.vs, dI, dB, dL, varD, varsD, List.getElem?_cons_zero, List.getElem?_cons_succ, List.cons_append, List.nil_append, Nat.zero_add, Nat.add_zero, Nat.reduceAdd, and_true, true_and, b2i_one, -eq_self, Kn.eta, Pi.eta, Pu.eta, Rg.eta, Sc.eta, Sc.eta_r, Sc.eta_k, Sc.eta_2, g]
  intro e; (try simp only [e, Kn.eta, Pi.eta, Pu.eta, Rg.eta, Sc.eta, Sc.eta_r, Sc.eta_k, Sc.eta_2, -eq_self]); clear e
  rfl
theorem sK_vnard {sp : Spec} {key : Nat} (hF : sp.F key = sF_vnard) (hP : sp.pre key = fun _ => True := by rfl) : SmOk Tryz.prog sp (sM_vnard key) :=
  fun_ok (s := sM_vnard key) hF hP (by kernel_rfl) tysok_VaB (smc (sK_vnar rfl) sm0) Tryz.func67 sR_vnard (.inl rfl) (fun x0 gx0 x1 gx1 x2 gx2 x3 gx3 x4 gx4 x5 gx5 hp ρ g => sX_vnard ⟨x0, x1, x2, x3, x4, x5⟩ ⟨gx0, gx1, gx2, gx3, gx4, gx5⟩ ρ g)
def sM_vtwoj (key : Nat) : Sm := ⟨56, key, [.agg kSc, .agg kSc, .one (.fn 57), .one (.fn 58)], [.agg kSc], false⟩
def sV_vtwoj (a : Sc) (b : Sc) : List Dt := [.z ((vjoin a b).ul), .z ((vjoin a b).uh), .z ((vjoin a b).sl), .z ((vjoin a b).sh), .z ((vjoin a b).v), .z ((vjoin a b).m)]
def sF_vtwoj : List Dt → List Dt
  | [.z x0, .z x1, .z x2, .z x3, .z x4, .z x5, .z x6, .z x7, .z x8, .z x9, .z x10, .z x11] => sV_vtwoj ⟨x0, x1, x2, x3, x4, x5⟩ ⟨x6, x7, x8, x9, x10, x11⟩
  | _ => []
def sT_vtwoj : Tr :=
(.call 0 ([.bool]) (.vs 0 6 .nil) 12
(.br (.bvar 12)
(.call 0 ([.bool]) (.vs 6 6 .nil) 13
(.br (.bvar 13)
(.call 3 (kRg) (.vs 0 4 (.vs 6 4 .nil)) 14
(.call 4 (kKn) (.vs 4 2 (.vs 10 2 .nil)) 18
(.call 2 (kSc) (.vs 14 6 .nil) 20
(.leaf (.vs 20 6 .nil)))))
(.call 1 (kSc) .nil 14
(.leaf (.vs 14 6 .nil)))))
(.call 1 (kSc) .nil 13
(.leaf (.vs 13 6 .nil)))))
def sP_vtwoj : Spec := ⟨fun k => match k with | 0 => sF_vmay | 1 => sF_vall | 2 => sF_vnard | 3 => sF_join | 4 => sF_kjoin | _ => fun _ => [], fun k => match k with | _ => fun _ => True⟩
set_option maxRecDepth 100000 in
theorem sR_vtwoj : treeIs tys_VaB [sM_vmay 0, sM_vall 1, sM_vnard 2, sM_join 3, sM_kjoin 4] [] [] 200 Tryz.f56 [.agg kSc, .agg kSc, .one (.fn 57), .one (.fn 58)] [.agg kSc] false [.int .u64, .int .u64, .int .i64, .int .i64, .int .u64, .int .u64, .int .u64, .int .u64, .int .i64, .int .i64, .int .u64, .int .u64] sT_vtwoj := ⟨by kernel_rfl, by kernel_rfl, by kernel_rfl⟩
set_option maxRecDepth 100000 in
set_option maxHeartbeats 8000000 in
theorem sX_vtwoj (a : Sc) (ha : Sc.ok a) (b : Sc) (hb : Sc.ok b)   (ρ : Env) (g : varsD ρ 0 [.int .u64, .int .u64, .int .i64, .int .i64, .int .u64, .int .u64, .int .u64, .int .u64, .int .i64, .int .i64, .int .u64, .int .u64] = [.z a.ul, .z a.uh, .z a.sl, .z a.sh, .z a.v, .z a.m, .z b.ul, .z b.uh, .z b.sl, .z b.sh, .z b.v, .z b.m]) : sT_vtwoj.asks sP_vtwoj (fun ρ e => e.D ρ = sF_vtwoj [.z a.ul, .z a.uh, .z a.sl, .z a.sh, .z a.v, .z a.m, .z b.ul, .z b.uh, .z b.sl, .z b.sh, .z b.v, .z b.m]) ρ fun _ _ => False := by
  simp only [varsD, varD, List.cons.injEq, Dt.z.injEq, Dt.l.injEq, b2i_eq_iff, Nat.reduceAdd, and_true] at g
  simp only [sT_vtwoj, sP_vtwoj, kKn, kRg, kSc, sF_vmay, sF_vall, sF_vnard, sF_join, sF_kjoin, sV_vmay, sV_vnard, sV_join, sV_kjoin, sF_vtwoj, sV_vtwoj, Tr.asks, upd_same, okDs, okD, eqs, E.I, E.B, E.L, E.R, E.D, E.vs, dI, dB, dL, varD, varsD, List.getElem?_cons_zero, List.getElem?_cons_succ, List.cons_append, List.nil_append, Nat.zero_add, Nat.add_zero, Nat.reduceAdd, and_true, true_and, b2i_one, -eq_self, Kn.eta, Pi.eta, Pu.eta, Rg.eta, Sc.eta, Sc.eta_r, Sc.eta_k, Sc.eta_2, g]
  intro e; (try simp only [e, Kn.eta, Pi.eta, Pu.eta, Rg.eta, Sc.eta, Sc.eta_r, Sc.eta_k, Sc.eta_2, -eq_self]); clear e
  refine ⟨fun c0 => ?_, fun c0 => ?_⟩
  intro e; (try simp only [e, Kn.eta, Pi.eta, Pu.eta, Rg.eta, Sc.eta, Sc.eta_r, Sc.eta_k, Sc.eta_2, -eq_self]); clear e
  refine ⟨fun c1 => ?_, fun c1 => ?_⟩
  intro e; (try simp only [e, Kn.eta, Pi.eta, Pu.eta, Rg.eta, Sc.eta, Sc.eta_r, Sc.eta_k, Sc.eta_2, -eq_self]); clear e
  intro e; (try simp only [e, Kn.eta, Pi.eta, Pu.eta, Rg.eta, Sc.eta, Sc.eta_r, Sc.eta_k, Sc.eta_2, -eq_self]); clear e
  intro e; (try simp only [e, Kn.eta, Pi.eta, Pu.eta, Rg.eta, Sc.eta, Sc.eta_r, Sc.eta_k, Sc.eta_2, -eq_self]); clear e
  (rw [show vjoin a b = vnar (sc (bjoin a.r b.r) (kjoin a.k b.k)) from if_pos ⟨c0, c1⟩]; try rfl)
  intro e; (try simp only [e, Kn.eta, Pi.eta, Pu.eta, Rg.eta, Sc.eta, Sc.eta_r, Sc.eta_k, Sc.eta_2, -eq_self]); clear e
  (rw [show vjoin a b = vall from if_neg (fun q => by simp_all)]; try rfl)
  intro e; (try simp only [e, Kn.eta, Pi.eta, Pu.eta, Rg.eta, Sc.eta, Sc.eta_r, Sc.eta_k, Sc.eta_2, -eq_self]); clear e
  (rw [show vjoin a b = vall from if_neg (fun q => by simp_all)]; try rfl)
theorem sK_vtwoj {sp : Spec} {key : Nat} (hF : sp.F key = sF_vtwoj) (hP : sp.pre key = fun _ => True := by rfl) : SmOk Tryz.prog sp (sM_vtwoj key) :=
  fun_ok (s := sM_vtwoj key) hF hP (by kernel_rfl) tysok_VaB (smc (sK_vmay rfl) (smc (sK_vall rfl) (smc (sK_vnard rfl) (smc (sK_join rfl) (smc (sK_kjoin rfl) sm0))))) Tryz.func56 sR_vtwoj (.inl rfl) (fun x0 gx0 x1 gx1 x2 gx2 x3 gx3 x4 gx4 x5 gx5 x6 gx6 x7 gx7 x8 gx8 x9 gx9 x10 gx10 x11 gx11 hp ρ g => sX_vtwoj ⟨x0, x1, x2, x3, x4, x5⟩ ⟨gx0, gx1, gx2, gx3, gx4, gx5⟩ ⟨x6, x7, x8, x9, x10, x11⟩ ⟨gx6, gx7, gx8, gx9, gx10, gx11⟩ ρ g)
def sM_vjoin (key : Nat) : Sm := ⟨20, key, [.agg kSc, .agg kSc], [.agg kSc], false⟩
def sV_vjoin (a : Sc) (b : Sc) : List Dt := [.z ((vjoin a b).ul), .z ((vjoin a b).uh), .z ((vjoin a b).sl), .z ((vjoin a b).sh), .z ((vjoin a b).v), .z ((vjoin a b).m)]
def sF_vjoin : List Dt → List Dt
  | [.z x0, .z x1, .z x2, .z x3, .z x4, .z x5, .z x6, .z x7, .z x8, .z x9, .z x10, .z x11] => sV_vjoin ⟨x0, x1, x2, x3, x4, x5⟩ ⟨x6, x7, x8, x9, x10, x11⟩
  | _ => []
def sT_vjoin : Tr :=
(.call 0 (kSc) (.vs 0 12 .nil) 12
(.leaf (.vs 12 6 .nil)))
def sP_vjoin : Spec := ⟨fun k => match k with | 0 => sF_vtwoj | _ => fun _ => [], fun k => match k with | _ => fun _ => True⟩
set_option maxRecDepth 100000 in
theorem sR_vjoin : treeIs tys_VaB [sM_vtwoj 0] [] [] 200 Tryz.f20 [.agg kSc, .agg kSc] [.agg kSc] false [.int .u64, .int .u64, .int .i64, .int .i64, .int .u64, .int .u64, .int .u64, .int .u64, .int .i64, .int .i64, .int .u64, .int .u64] sT_vjoin := ⟨by kernel_rfl, by kernel_rfl, by kernel_rfl⟩
set_option maxRecDepth 100000 in
set_option maxHeartbeats 8000000 in
theorem sX_vjoin (a : Sc) (ha : Sc.ok a) (b : Sc) (hb : Sc.ok b) (ρ : Env) (g : varsD ρ 0 [.int .u64, .int .u64, .int .i64, .int .i64, .int .u64, .int .u64, .int .u64, .int .u64, .int .i64, .int .i64, .int .u64, .int .u64] = [.z a.ul, .z a.uh, .z a.sl, .z a.sh, .z a.v, .z a.m, .z b.ul, .z b.uh, .z b.sl, .z b.sh, .z b.v, .z b.m]) : sT_vjoin.asks sP_vjoin (fun ρ e => e.D ρ = sF_vjoin [.z a.ul, .z a.uh, .z a.sl, .z a.sh, .z a.v, .z a.m, .z b.ul, .z b.uh, .z b.sl, .z b.sh, .z b.v, .z b.m]) ρ fun _ _ => False := by
  simp only [varsD, varD, List.cons.injEq, Dt.z.injEq, Dt.l.injEq, b2i_eq_iff, Nat.reduceAdd, and_true] at g
  simp only [sT_vjoin, sP_vjoin, kSc, sF_vtwoj, sV_vtwoj, sF_vjoin, sV_vjoin, Tr.asks, upd_same, okDs, okD, eqs, E.I, E.B, E.L, E.R, E.D, E.vs, dI, dB, dL, varD, varsD, List.getElem?_cons_zero, List.getElem?_cons_succ, List.cons_append, List.nil_append, Nat.zero_add, Nat.add_zero, Nat.reduceAdd, and_true, true_and, b2i_one, -eq_self, Kn.eta, Pi.eta, Pu.eta, Rg.eta, Sc.eta, Sc.eta_r, Sc.eta_k, Sc.eta_2, g]
  intro e; (try simp only [e, Kn.eta, Pi.eta, Pu.eta, Rg.eta, Sc.eta, Sc.eta_r, Sc.eta_k, Sc.eta_2, -eq_self]); clear e
  rfl
theorem sK_vjoin {sp : Spec} {key : Nat} (hF : sp.F key = sF_vjoin) (hP : sp.pre key = fun _ => True := by rfl) : SmOk Tryz.prog sp (sM_vjoin key) :=
  fun_ok (s := sM_vjoin key) hF hP (by kernel_rfl) tysok_VaB (smc (sK_vtwoj rfl) sm0) Tryz.func20 sR_vjoin (.inl rfl) (fun x0 gx0 x1 gx1 x2 gx2 x3 gx3 x4 gx4 x5 gx5 x6 gx6 x7 gx7 x8 gx8 x9 gx9 x10 gx10 x11 gx11 hp ρ g => sX_vjoin ⟨x0, x1, x2, x3, x4, x5⟩ ⟨gx0, gx1, gx2, gx3, gx4, gx5⟩ ⟨x6, x7, x8, x9, x10, x11⟩ ⟨gx6, gx7, gx8, gx9, gx10, gx11⟩ ρ g)
def sM_vendu (key : Nat) : Sm := ⟨78, key, [.one (.int .u64), .one (.int .u64), .one (.int .u64), .one .bool], [.one (.int .u64)], false⟩
def sV_vendu (a : Int) (b : Int) (c : Int) (t : Bool) : List Dt := [.z (if (a == b) = false ∧ t = true then c else a)]
def sF_vendu : List Dt → List Dt
  | [.z x0, .z x1, .z x2, .z x3] => sV_vendu x0 x1 x2 (x3 == 1)
  | _ => []
def sT_vendu : Tr :=
(.br (.eq (.var 0) (.var 1))
(.leaf (.cons (.var 0) .nil))
(.br (.bvar 3)
(.leaf (.cons (.var 2) .nil))
(.leaf (.cons (.var 0) .nil))))
def sP_vendu : Spec := ⟨fun k => match k with | _ => fun _ => [], fun k => match k with | _ => fun _ => True⟩
set_option maxRecDepth 100000 in
theorem sR_vendu : treeIs tys_VaB [] [] [] 200 Tryz.f78 [.one (.int .u64), .one (.int .u64), .one (.int .u64), .one .bool] [.one (.int .u64)] false [.int .u64, .int .u64, .int .u64, .bool] sT_vendu := ⟨by kernel_rfl, by kernel_rfl, by kernel_rfl⟩
set_option maxRecDepth 100000 in
set_option maxHeartbeats 8000000 in
theorem sX_vendu (a : Int) (ha : inK .u64 a = true) (b : Int) (hb : inK .u64 b = true) (c : Int) (hc : inK .u64 c = true) (t : Bool) (ρ : Env) (g : varsD ρ 0 [.int .u64, .int .u64, .int .u64, .bool] = [.z a, .z b, .z c, .z (b2i t)]) : sT_vendu.asks sP_vendu (fun ρ e => e.D ρ = sF_vendu [.z a, .z b, .z c, .z (b2i t)]) ρ fun _ _ => False := by
  simp only [varsD, varD, List.cons.injEq, Dt.z.injEq, Dt.l.injEq, b2i_eq_iff, Nat.reduceAdd, and_true] at g
  simp only [sT_vendu, sP_vendu, sF_vendu, sV_vendu, Tr.asks, upd_same, okDs, okD, eqs, E.I, E.B, E.L, E.R, E.D, E.vs, dI, dB, dL, varD, varsD, List.getElem?_cons_zero, List.getElem?_cons_succ, List.cons_append, List.nil_append, Nat.zero_add, Nat.add_zero, Nat.reduceAdd, and_true, true_and, b2i_one, -eq_self, Sc.eta_r, Sc.eta_k, Sc.eta_2, g]
  refine ⟨fun c0 => ?_, fun c0 => ?_⟩
  (simp_all)
  refine ⟨fun c1 => ?_, fun c1 => ?_⟩
  (simp_all)
  (simp_all)
theorem sK_vendu {sp : Spec} {key : Nat} (hF : sp.F key = sF_vendu) (hP : sp.pre key = fun _ => True := by rfl) : SmOk Tryz.prog sp (sM_vendu key) :=
  fun_ok (s := sM_vendu key) hF hP (by kernel_rfl) tysok_VaB (sm0) Tryz.func78 sR_vendu (.inl rfl) (fun x0 gx0 x1 gx1 x2 gx2 x3 hp ρ g => sX_vendu x0 gx0 x1 gx1 x2 gx2 x3 ρ g)
def sM_vendi (key : Nat) : Sm := ⟨79, key, [.one (.int .i64), .one (.int .i64), .one (.int .i64), .one .bool], [.one (.int .i64)], false⟩
def sV_vendi (a : Int) (b : Int) (c : Int) (t : Bool) : List Dt := [.z (if (a == b) = false ∧ t = true then c else a)]
def sF_vendi : List Dt → List Dt
  | [.z x0, .z x1, .z x2, .z x3] => sV_vendi x0 x1 x2 (x3 == 1)
  | _ => []
def sT_vendi : Tr :=
(.br (.eq (.var 0) (.var 1))
(.leaf (.cons (.var 0) .nil))
(.br (.bvar 3)
(.leaf (.cons (.var 2) .nil))
(.leaf (.cons (.var 0) .nil))))
def sP_vendi : Spec := ⟨fun k => match k with | _ => fun _ => [], fun k => match k with | _ => fun _ => True⟩
set_option maxRecDepth 100000 in
theorem sR_vendi : treeIs tys_VaB [] [] [] 200 Tryz.f79 [.one (.int .i64), .one (.int .i64), .one (.int .i64), .one .bool] [.one (.int .i64)] false [.int .i64, .int .i64, .int .i64, .bool] sT_vendi := ⟨by kernel_rfl, by kernel_rfl, by kernel_rfl⟩
set_option maxRecDepth 100000 in
set_option maxHeartbeats 8000000 in
theorem sX_vendi (a : Int) (ha : inK .i64 a = true) (b : Int) (hb : inK .i64 b = true) (c : Int) (hc : inK .i64 c = true) (t : Bool) (ρ : Env) (g : varsD ρ 0 [.int .i64, .int .i64, .int .i64, .bool] = [.z a, .z b, .z c, .z (b2i t)]) : sT_vendi.asks sP_vendi (fun ρ e => e.D ρ = sF_vendi [.z a, .z b, .z c, .z (b2i t)]) ρ fun _ _ => False := by
  simp only [varsD, varD, List.cons.injEq, Dt.z.injEq, Dt.l.injEq, b2i_eq_iff, Nat.reduceAdd, and_true] at g
  simp only [sT_vendi, sP_vendi, sF_vendi, sV_vendi, Tr.asks, upd_same, okDs, okD, eqs, E.I, E.B, E.L, E.R, E.D, E.vs, dI, dB, dL, varD, varsD, List.getElem?_cons_zero, List.getElem?_cons_succ, List.cons_append, List.nil_append, Nat.zero_add, Nat.add_zero, Nat.reduceAdd, and_true, true_and, b2i_one, -eq_self, Sc.eta_r, Sc.eta_k, Sc.eta_2, g]
  refine ⟨fun c0 => ?_, fun c0 => ?_⟩
  (simp_all)
  refine ⟨fun c1 => ?_, fun c1 => ?_⟩
  (simp_all)
  (simp_all)
theorem sK_vendi {sp : Spec} {key : Nat} (hF : sp.F key = sF_vendi) (hP : sp.pre key = fun _ => True := by rfl) : SmOk Tryz.prog sp (sM_vendi key) :=
  fun_ok (s := sM_vendi key) hF hP (by kernel_rfl) tysok_VaB (sm0) Tryz.func79 sR_vendi (.inl rfl) (fun x0 gx0 x1 gx1 x2 gx2 x3 hp ρ g => sX_vendi x0 gx0 x1 gx1 x2 gx2 x3 ρ g)
def sM_vwid0 (key : Nat) : Sm := ⟨77, key, [.agg kRg, .agg kRg], [.agg kRg], false⟩
def sV_vwid0 (a : Rg) (b : Rg) : List Dt := [.z ((bwid a b).ul), .z ((bwid a b).uh), .z ((bwid a b).sl), .z ((bwid a b).sh)]
def sF_vwid0 : List Dt → List Dt
  | [.z x0, .z x1, .z x2, .z x3, .z x4, .z x5, .z x6, .z x7] => sV_vwid0 ⟨x0, x1, x2, x3⟩ ⟨x4, x5, x6, x7⟩
  | _ => []
def sT_vwid0 : Tr :=
(.call 0 (kRg) .nil 8
(.call 1 ([.int .u64]) (.cons (.var 0) (.cons (.var 4) (.cons (.var 8) (.consb (.lt (.var 4) (.var 0)) .nil)))) 12
(.call 1 ([.int .u64]) (.cons (.var 1) (.cons (.var 5) (.cons (.var 9) (.consb (.lt (.var 1) (.var 5)) .nil)))) 13
(.call 2 ([.int .i64]) (.cons (.var 2) (.cons (.var 6) (.cons (.var 10) (.consb (.lt (.var 6) (.var 2)) .nil)))) 14
(.call 2 ([.int .i64]) (.cons (.var 3) (.cons (.var 7) (.cons (.var 11) (.consb (.lt (.var 3) (.var 7)) .nil)))) 15
(.leaf (.vs 12 4 .nil)))))))
def sP_vwid0 : Spec := ⟨fun k => match k with | 0 => sF_all | 1 => sF_vendu | 2 => sF_vendi | _ => fun _ => [], fun k => match k with | _ => fun _ => True⟩
set_option maxRecDepth 100000 in
theorem sR_vwid0 : treeIs tys_VaB [sM_all 0, sM_vendu 1, sM_vendi 2] [] [] 200 Tryz.f77 [.agg kRg, .agg kRg] [.agg kRg] false [.int .u64, .int .u64, .int .i64, .int .i64, .int .u64, .int .u64, .int .i64, .int .i64] sT_vwid0 := ⟨by kernel_rfl, by kernel_rfl, by kernel_rfl⟩
set_option maxRecDepth 100000 in
set_option maxHeartbeats 8000000 in
theorem sX_vwid0 (a : Rg) (ha : Rg.ok a) (b : Rg) (hb : Rg.ok b) (ρ : Env) (g : varsD ρ 0 [.int .u64, .int .u64, .int .i64, .int .i64, .int .u64, .int .u64, .int .i64, .int .i64] = [.z a.ul, .z a.uh, .z a.sl, .z a.sh, .z b.ul, .z b.uh, .z b.sl, .z b.sh]) : sT_vwid0.asks sP_vwid0 (fun ρ e => e.D ρ = sF_vwid0 [.z a.ul, .z a.uh, .z a.sl, .z a.sh, .z b.ul, .z b.uh, .z b.sl, .z b.sh]) ρ fun _ _ => False := by
  simp only [varsD, varD, List.cons.injEq, Dt.z.injEq, Dt.l.injEq, b2i_eq_iff, Nat.reduceAdd, and_true] at g
  simp only [sT_vwid0, sP_vwid0, kRg, sF_all, sF_vendu, sF_vendi, sV_vendu, sV_vendi, sF_vwid0, sV_vwid0, Tr.asks, upd_same, okDs, okD, eqs, E.I, E.B, E.L, E.R, E.D, E.vs, dI, dB, dL, varD, varsD, List.getElem?_cons_zero, List.getElem?_cons_succ, List.cons_append, List.nil_append, Nat.zero_add, Nat.add_zero, Nat.reduceAdd, and_true, true_and, b2i_one, -eq_self, Kn.eta, Pi.eta, Pu.eta, Rg.eta, Sc.eta, Sc.eta_r, Sc.eta_k, Sc.eta_2, g]
  intro e; (try simp only [e, Kn.eta, Pi.eta, Pu.eta, Rg.eta, Sc.eta, Sc.eta_r, Sc.eta_k, Sc.eta_2, -eq_self]); clear e
  intro e; (try simp only [e, Kn.eta, Pi.eta, Pu.eta, Rg.eta, Sc.eta, Sc.eta_r, Sc.eta_k, Sc.eta_2, -eq_self]); clear e
  intro e; (try simp only [e, Kn.eta, Pi.eta, Pu.eta, Rg.eta, Sc.eta, Sc.eta_r, Sc.eta_k, Sc.eta_2, -eq_self]); clear e
  intro e; (try simp only [e, Kn.eta, Pi.eta, Pu.eta, Rg.eta, Sc.eta, Sc.eta_r, Sc.eta_k, Sc.eta_2, -eq_self]); clear e
  intro e; (try simp only [e, Kn.eta, Pi.eta, Pu.eta, Rg.eta, Sc.eta, Sc.eta_r, Sc.eta_k, Sc.eta_2, -eq_self]); clear e
  rfl
theorem sK_vwid0 {sp : Spec} {key : Nat} (hF : sp.F key = sF_vwid0) (hP : sp.pre key = fun _ => True := by rfl) : SmOk Tryz.prog sp (sM_vwid0 key) :=
  fun_ok (s := sM_vwid0 key) hF hP (by kernel_rfl) tysok_VaB (smc (sK_all rfl) (smc (sK_vendu rfl) (smc (sK_vendi rfl) sm0))) Tryz.func77 sR_vwid0 (.inl rfl) (fun x0 gx0 x1 gx1 x2 gx2 x3 gx3 x4 gx4 x5 gx5 x6 gx6 x7 gx7 hp ρ g => sX_vwid0 ⟨x0, x1, x2, x3⟩ ⟨gx0, gx1, gx2, gx3⟩ ⟨x4, x5, x6, x7⟩ ⟨gx4, gx5, gx6, gx7⟩ ρ g)
def sM_vtwow (key : Nat) : Sm := ⟨56, key, [.agg kSc, .agg kSc, .one (.fn 77), .one (.fn 58)], [.agg kSc], false⟩
def sV_vtwow (a : Sc) (b : Sc) : List Dt := [.z ((vwid a b).ul), .z ((vwid a b).uh), .z ((vwid a b).sl), .z ((vwid a b).sh), .z ((vwid a b).v), .z ((vwid a b).m)]
def sF_vtwow : List Dt → List Dt
  | [.z x0, .z x1, .z x2, .z x3, .z x4, .z x5, .z x6, .z x7, .z x8, .z x9, .z x10, .z x11] => sV_vtwow ⟨x0, x1, x2, x3, x4, x5⟩ ⟨x6, x7, x8, x9, x10, x11⟩
  | _ => []
def sT_vtwow : Tr :=
(.call 0 ([.bool]) (.vs 0 6 .nil) 12
(.br (.bvar 12)
(.call 0 ([.bool]) (.vs 6 6 .nil) 13
(.br (.bvar 13)
(.call 3 (kRg) (.vs 0 4 (.vs 6 4 .nil)) 14
(.call 4 (kKn) (.vs 4 2 (.vs 10 2 .nil)) 18
(.call 2 (kSc) (.vs 14 6 .nil) 20
(.leaf (.vs 20 6 .nil)))))
(.call 1 (kSc) .nil 14
(.leaf (.vs 14 6 .nil)))))
(.call 1 (kSc) .nil 13
(.leaf (.vs 13 6 .nil)))))
def sP_vtwow : Spec := ⟨fun k => match k with | 0 => sF_vmay | 1 => sF_vall | 2 => sF_vnard | 3 => sF_vwid0 | 4 => sF_kjoin | _ => fun _ => [], fun k => match k with | _ => fun _ => True⟩
set_option maxRecDepth 100000 in
theorem sR_vtwow : treeIs tys_VaB [sM_vmay 0, sM_vall 1, sM_vnard 2, sM_vwid0 3, sM_kjoin 4] [] [] 200 Tryz.f56 [.agg kSc, .agg kSc, .one (.fn 77), .one (.fn 58)] [.agg kSc] false [.int .u64, .int .u64, .int .i64, .int .i64, .int .u64, .int .u64, .int .u64, .int .u64, .int .i64, .int .i64, .int .u64, .int .u64] sT_vtwow := ⟨by kernel_rfl, by kernel_rfl, by kernel_rfl⟩
set_option maxRecDepth 100000 in
set_option maxHeartbeats 8000000 in
theorem sX_vtwow (a : Sc) (ha : Sc.ok a) (b : Sc) (hb : Sc.ok b)   (ρ : Env) (g : varsD ρ 0 [.int .u64, .int .u64, .int .i64, .int .i64, .int .u64, .int .u64, .int .u64, .int .u64, .int .i64, .int .i64, .int .u64, .int .u64] = [.z a.ul, .z a.uh, .z a.sl, .z a.sh, .z a.v, .z a.m, .z b.ul, .z b.uh, .z b.sl, .z b.sh, .z b.v, .z b.m]) : sT_vtwow.asks sP_vtwow (fun ρ e => e.D ρ = sF_vtwow [.z a.ul, .z a.uh, .z a.sl, .z a.sh, .z a.v, .z a.m, .z b.ul, .z b.uh, .z b.sl, .z b.sh, .z b.v, .z b.m]) ρ fun _ _ => False := by
  simp only [varsD, varD, List.cons.injEq, Dt.z.injEq, Dt.l.injEq, b2i_eq_iff, Nat.reduceAdd, and_true] at g
  simp only [sT_vtwow, sP_vtwow, kKn, kRg, kSc, sF_vmay, sF_vall, sF_vnard, sF_vwid0, sF_kjoin, sV_vmay, sV_vnard, sV_vwid0, sV_kjoin, sF_vtwow, sV_vtwow, Tr.asks, upd_same, okDs, okD, eqs, E.I, E.B, E.L, E.R, E.D, E.vs, dI, dB, dL, varD, varsD, List.getElem?_cons_zero, List.getElem?_cons_succ, List.cons_append, List.nil_append, Nat.zero_add, Nat.add_zero, Nat.reduceAdd, and_true, true_and, b2i_one, -eq_self, Kn.eta, Pi.eta, Pu.eta, Rg.eta, Sc.eta, Sc.eta_r, Sc.eta_k, Sc.eta_2, g]
  intro e; (try simp only [e, Kn.eta, Pi.eta, Pu.eta, Rg.eta, Sc.eta, Sc.eta_r, Sc.eta_k, Sc.eta_2, -eq_self]); clear e
  refine ⟨fun c0 => ?_, fun c0 => ?_⟩
  intro e; (try simp only [e, Kn.eta, Pi.eta, Pu.eta, Rg.eta, Sc.eta, Sc.eta_r, Sc.eta_k, Sc.eta_2, -eq_self]); clear e
  refine ⟨fun c1 => ?_, fun c1 => ?_⟩
  intro e; (try simp only [e, Kn.eta, Pi.eta, Pu.eta, Rg.eta, Sc.eta, Sc.eta_r, Sc.eta_k, Sc.eta_2, -eq_self]); clear e
  intro e; (try simp only [e, Kn.eta, Pi.eta, Pu.eta, Rg.eta, Sc.eta, Sc.eta_r, Sc.eta_k, Sc.eta_2, -eq_self]); clear e
  intro e; (try simp only [e, Kn.eta, Pi.eta, Pu.eta, Rg.eta, Sc.eta, Sc.eta_r, Sc.eta_k, Sc.eta_2, -eq_self]); clear e
  (rw [show vwid a b = vnar (sc (bwid a.r b.r) (kjoin a.k b.k)) from if_pos ⟨c0, c1⟩]; try rfl)
  intro e; (try simp only [e, Kn.eta, Pi.eta, Pu.eta, Rg.eta, Sc.eta, Sc.eta_r, Sc.eta_k, Sc.eta_2, -eq_self]); clear e
  (rw [show vwid a b = vall from if_neg (fun q => by simp_all)]; try rfl)
  intro e; (try simp only [e, Kn.eta, Pi.eta, Pu.eta, Rg.eta, Sc.eta, Sc.eta_r, Sc.eta_k, Sc.eta_2, -eq_self]); clear e
  (rw [show vwid a b = vall from if_neg (fun q => by simp_all)]; try rfl)
theorem sK_vtwow {sp : Spec} {key : Nat} (hF : sp.F key = sF_vtwow) (hP : sp.pre key = fun _ => True := by rfl) : SmOk Tryz.prog sp (sM_vtwow key) :=
  fun_ok (s := sM_vtwow key) hF hP (by kernel_rfl) tysok_VaB (smc (sK_vmay rfl) (smc (sK_vall rfl) (smc (sK_vnard rfl) (smc (sK_vwid0 rfl) (smc (sK_kjoin rfl) sm0))))) Tryz.func56 sR_vtwow (.inl rfl) (fun x0 gx0 x1 gx1 x2 gx2 x3 gx3 x4 gx4 x5 gx5 x6 gx6 x7 gx7 x8 gx8 x9 gx9 x10 gx10 x11 gx11 hp ρ g => sX_vtwow ⟨x0, x1, x2, x3, x4, x5⟩ ⟨gx0, gx1, gx2, gx3, gx4, gx5⟩ ⟨x6, x7, x8, x9, x10, x11⟩ ⟨gx6, gx7, gx8, gx9, gx10, gx11⟩ ρ g)
def sM_vwid (key : Nat) : Sm := ⟨26, key, [.agg kSc, .agg kSc], [.agg kSc], false⟩
def sV_vwid (a : Sc) (b : Sc) : List Dt := [.z ((vwid a b).ul), .z ((vwid a b).uh), .z ((vwid a b).sl), .z ((vwid a b).sh), .z ((vwid a b).v), .z ((vwid a b).m)]
def sF_vwid : List Dt → List Dt
  | [.z x0, .z x1, .z x2, .z x3, .z x4, .z x5, .z x6, .z x7, .z x8, .z x9, .z x10, .z x11] => sV_vwid ⟨x0, x1, x2, x3, x4, x5⟩ ⟨x6, x7, x8, x9, x10, x11⟩
  | _ => []
def sT_vwid : Tr :=
(.call 0 (kSc) (.vs 0 12 .nil) 12
(.leaf (.vs 12 6 .nil)))
def sP_vwid : Spec := ⟨fun k => match k with | 0 => sF_vtwow | _ => fun _ => [], fun k => match k with | _ => fun _ => True⟩
set_option maxRecDepth 100000 in
theorem sR_vwid : treeIs tys_VaB [sM_vtwow 0] [] [] 200 Tryz.f26 [.agg kSc, .agg kSc] [.agg kSc] false [.int .u64, .int .u64, .int .i64, .int .i64, .int .u64, .int .u64, .int .u64, .int .u64, .int .i64, .int .i64, .int .u64, .int .u64] sT_vwid := ⟨by kernel_rfl, by kernel_rfl, by kernel_rfl⟩
set_option maxRecDepth 100000 in
set_option maxHeartbeats 8000000 in
theorem sX_vwid (a : Sc) (ha : Sc.ok a) (b : Sc) (hb : Sc.ok b) (ρ : Env) (g : varsD ρ 0 [.int .u64, .int .u64, .int .i64, .int .i64, .int .u64, .int .u64, .int .u64, .int .u64, .int .i64, .int .i64, .int .u64, .int .u64] = [.z a.ul, .z a.uh, .z a.sl, .z a.sh, .z a.v, .z a.m, .z b.ul, .z b.uh, .z b.sl, .z b.sh, .z b.v, .z b.m]) : sT_vwid.asks sP_vwid (fun ρ e => e.D ρ = sF_vwid [.z a.ul, .z a.uh, .z a.sl, .z a.sh, .z a.v, .z a.m, .z b.ul, .z b.uh, .z b.sl, .z b.sh, .z b.v, .z b.m]) ρ fun _ _ => False := by
  simp only [varsD, varD, List.cons.injEq, Dt.z.injEq, Dt.l.injEq, b2i_eq_iff, Nat.reduceAdd, and_true] at g
  simp only [sT_vwid, sP_vwid, kSc, sF_vtwow, sV_vtwow, sF_vwid, sV_vwid, Tr.asks, upd_same, okDs, okD, eqs, E.I, E.B, E.L, E.R, E.D, E.vs, dI, dB, dL, varD, varsD, List.getElem?_cons_zero, List.getElem?_cons_succ, List.cons_append, List.nil_append, Nat.zero_add, Nat.add_zero, Nat.reduceAdd, and_true, true_and, b2i_one, -eq_self, Kn.eta, Pi.eta, Pu.eta, Rg.eta, Sc.eta, Sc.eta_r, Sc.eta_k, Sc.eta_2, g]
  intro e; (try simp only [e, Kn.eta, Pi.eta, Pu.eta, Rg.eta, Sc.eta, Sc.eta_r, Sc.eta_k, Sc.eta_2, -eq_self]); clear e
  rfl
theorem sK_vwid {sp : Spec} {key : Nat} (hF : sp.F key = sF_vwid) (hP : sp.pre key = fun _ => True := by rfl) : SmOk Tryz.prog sp (sM_vwid key) :=
  fun_ok (s := sM_vwid key) hF hP (by kernel_rfl) tysok_VaB (smc (sK_vtwow rfl) sm0) Tryz.func26 sR_vwid (.inl rfl) (fun x0 gx0 x1 gx1 x2 gx2 x3 gx3 x4 gx4 x5 gx5 x6 gx6 x7 gx7 x8 gx8 x9 gx9 x10 gx10 x11 gx11 hp ρ g => sX_vwid ⟨x0, x1, x2, x3, x4, x5⟩ ⟨gx0, gx1, gx2, gx3, gx4, gx5⟩ ⟨x6, x7, x8, x9, x10, x11⟩ ⟨gx6, gx7, gx8, gx9, gx10, gx11⟩ ρ g)
def sM_vlow (key : Nat) : Sm := ⟨70, key, [.agg kSc], [.agg kSc], false⟩
def sV_vlow (a : Sc) : List Dt := [.z ((vlow a).ul), .z ((vlow a).uh), .z ((vlow a).sl), .z ((vlow a).sh), .z ((vlow a).v), .z ((vlow a).m)]
def sF_vlow : List Dt → List Dt
  | [.z x0, .z x1, .z x2, .z x3, .z x4, .z x5] => sV_vlow ⟨x0, x1, x2, x3, x4, x5⟩
  | _ => []
def sT_vlow : Tr :=
(.call 0 (kRg) (.vs 0 4 .nil) 6
(.call 1 (kKn) (.vs 4 2 (.cons (.lit 32) .nil)) 10
(.call 2 (kSc) (.vs 6 6 .nil) 12
(.leaf (.vs 12 6 .nil)))))
def sP_vlow : Spec := ⟨fun k => match k with | 0 => sF_low | 1 => sF_kcut | 2 => sF_vnard | _ => fun _ => [], fun k => match k with | _ => fun _ => True⟩
set_option maxRecDepth 100000 in
theorem sR_vlow : treeIs tys_VaB [sM_low 0, sM_kcut 1, sM_vnard 2] [] [] 200 Tryz.f70 [.agg kSc] [.agg kSc] false [.int .u64, .int .u64, .int .i64, .int .i64, .int .u64, .int .u64] sT_vlow := ⟨by kernel_rfl, by kernel_rfl, by kernel_rfl⟩
set_option maxRecDepth 100000 in
set_option maxHeartbeats 8000000 in
theorem sX_vlow (a : Sc) (ha : Sc.ok a) (ρ : Env) (g : varsD ρ 0 [.int .u64, .int .u64, .int .i64, .int .i64, .int .u64, .int .u64] = [.z a.ul, .z a.uh, .z a.sl, .z a.sh, .z a.v, .z a.m]) : sT_vlow.asks sP_vlow (fun ρ e => e.D ρ = sF_vlow [.z a.ul, .z a.uh, .z a.sl, .z a.sh, .z a.v, .z a.m]) ρ fun _ _ => False := by
  simp only [varsD, varD, List.cons.injEq, Dt.z.injEq, Dt.l.injEq, b2i_eq_iff, Nat.reduceAdd, and_true] at g
  simp only [sT_vlow, sP_vlow, kKn, kRg, kSc, sF_low, sF_kcut, sF_vnard, sV_low, sV_kcut, sV_vnard, sF_vlow, sV_vlow, Tr.asks, upd_same, okDs, okD, eqs, E.I, E.B, E.L, E.R, E.D, E.vs, dI, dB, dL, varD, varsD, List.getElem?_cons_zero, List.getElem?_cons_succ, List.cons_append, List.nil_append, Nat.zero_add, Nat.add_zero, Nat.reduceAdd, and_true, true_and, b2i_one, -eq_self, Kn.eta, Pi.eta, Pu.eta, Rg.eta, Sc.eta, Sc.eta_r, Sc.eta_k, Sc.eta_2, g]
  intro e; (try simp only [e, Kn.eta, Pi.eta, Pu.eta, Rg.eta, Sc.eta, Sc.eta_r, Sc.eta_k, Sc.eta_2, -eq_self]); clear e
  intro e; (try simp only [e, Kn.eta, Pi.eta, Pu.eta, Rg.eta, Sc.eta, Sc.eta_r, Sc.eta_k, Sc.eta_2, -eq_self]); clear e
  intro e; (try simp only [e, Kn.eta, Pi.eta, Pu.eta, Rg.eta, Sc.eta, Sc.eta_r, Sc.eta_k, Sc.eta_2, -eq_self]); clear e
  rfl
theorem sK_vlow {sp : Spec} {key : Nat} (hF : sp.F key = sF_vlow) (hP : sp.pre key = fun _ => True := by rfl) : SmOk Tryz.prog sp (sM_vlow key) :=
  fun_ok (s := sM_vlow key) hF hP (by kernel_rfl) tysok_VaB (smc (sK_low rfl) (smc (sK_kcut rfl) (smc (sK_vnard rfl) sm0))) Tryz.func70 sR_vlow (.inl rfl) (fun x0 gx0 x1 gx1 x2 gx2 x3 gx3 x4 gx4 x5 gx5 hp ρ g => sX_vlow ⟨x0, x1, x2, x3, x4, x5⟩ ⟨gx0, gx1, gx2, gx3, gx4, gx5⟩ ρ g)
def sM_vhalf (key : Nat) : Sm := ⟨71, key, [.one (.int .i8), .agg kSc, .agg kSc], [.agg kRg], false⟩
def sV_vhalf (op : Int) (a : Sc) (b : Sc) : List Dt := [.z ((vhalf op a b).ul), .z ((vhalf op a b).uh), .z ((vhalf op a b).sl), .z ((vhalf op a b).sh)]
def sF_vhalf : List Dt → List Dt
  | [.z x0, .z x1, .z x2, .z x3, .z x4, .z x5, .z x6, .z x7, .z x8, .z x9, .z x10, .z x11, .z x12] => sV_vhalf x0 ⟨x1, x2, x3, x4, x5, x6⟩ ⟨x7, x8, x9, x10, x11, x12⟩
  | _ => []
def sT_vhalf : Tr :=
(.call 0 (kRg) .nil 13
(.call 1 (kRg) (.vs 13 4 .nil) 17
(.br (.eq (.var 0) (.lit 8))
(.leaf (.vs 17 4 .nil))
(.br (.eq (.var 0) (.lit 12))
(.leaf (.vs 17 4 .nil))
(.br (.eq (.var 0) (.lit 6))
(.call 2 ([.int .u64] ++ [.bool]) (.vs 7 6 .nil) 21
(.br (.bvar 22)
(.call 3 (kSc) (.cons (.bin .and .u64 (.var 21) (.lit 31)) .nil) 23
(.call 4 (kRg) (.vs 0 5 (.vs 23 4 .nil)) 29
(.br (.lt (.var 30) (.lit 4294967296))
(.leaf (.vs 29 4 .nil))
(.leaf (.vs 17 4 .nil)))))
(.leaf (.vs 17 4 .nil))))
(.br (.eq (.var 0) (.lit 7))
(.call 2 ([.int .u64] ++ [.bool]) (.vs 7 6 .nil) 21
(.br (.bvar 22)
(.call 3 (kSc) (.cons (.bin .and .u64 (.var 21) (.lit 31)) .nil) 23
(.call 4 (kRg) (.vs 0 5 (.vs 23 4 .nil)) 29
(.br (.lt (.var 30) (.lit 4294967296))
(.leaf (.vs 29 4 .nil))
(.leaf (.vs 17 4 .nil)))))
(.leaf (.vs 17 4 .nil))))
(.call 4 (kRg) (.vs 0 5 (.vs 7 4 .nil)) 21
(.br (.lt (.var 22) (.lit 4294967296))
(.leaf (.vs 21 4 .nil))
(.leaf (.vs 17 4 .nil))))))))))
def sP_vhalf : Spec := ⟨fun k => match k with | 0 => sF_all | 1 => sF_low | 2 => sF_vsingle | 3 => sF_vone | 4 => sF_do | _ => fun _ => [], fun k => match k with | _ => fun _ => True⟩
set_option maxRecDepth 100000 in
theorem sR_vhalf : treeIs tys_VaB [sM_all 0, sM_low 1, sM_vsingle 2, sM_vone 3, sM_do 4] [] [] 200 Tryz.f71 [.one (.int .i8), .agg kSc, .agg kSc] [.agg kRg] false [.int .i8, .int .u64, .int .u64, .int .i64, .int .i64, .int .u64, .int .u64, .int .u64, .int .u64, .int .i64, .int .i64, .int .u64, .int .u64] sT_vhalf := ⟨by kernel_rfl, by kernel_rfl, by kernel_rfl⟩
set_option maxRecDepth 100000 in
set_option maxHeartbeats 8000000 in
theorem sX_vhalf (op : Int) (hop : inK .i8 op = true) (a : Sc) (ha : Sc.ok a) (b : Sc) (hb : Sc.ok b) (ρ : Env) (g : varsD ρ 0 [.int .i8, .int .u64, .int .u64, .int .i64, .int .i64, .int .u64, .int .u64, .int .u64, .int .u64, .int .i64, .int .i64, .int .u64, .int .u64] = [.z op, .z a.ul, .z a.uh, .z a.sl, .z a.sh, .z a.v, .z a.m, .z b.ul, .z b.uh, .z b.sl, .z b.sh, .z b.v, .z b.m]) : sT_vhalf.asks sP_vhalf (fun ρ e => e.D ρ = sF_vhalf [.z op, .z a.ul, .z a.uh, .z a.sl, .z a.sh, .z a.v, .z a.m, .z b.ul, .z b.uh, .z b.sl, .z b.sh, .z b.v, .z b.m]) ρ fun _ _ => False := by
  simp only [varsD, varD, List.cons.injEq, Dt.z.injEq, Dt.l.injEq, b2i_eq_iff, Nat.reduceAdd, and_true] at g
  simp only [sT_vhalf, sP_vhalf, kRg, kSc, sF_all, sF_low, sF_vsingle, sF_vone, sF_do, sV_low, sV_vsingle, sV_vone, sV_do, sF_vhalf, sV_vhalf, Tr.asks, upd_same, okDs, okD, eqs, E.I, E.B, E.L, E.R, E.D, E.vs, dI, dB, dL, varD, varsD, List.getElem?_cons_zero, List.getElem?_cons_succ, List.cons_append, List.nil_append, Nat.zero_add, Nat.add_zero, Nat.reduceAdd, and_true, true_and, b2i_one, -eq_self, Kn.eta, Pi.eta, Pu.eta, Rg.eta, Sc.eta, Sc.eta_r, Sc.eta_k, Sc.eta_2, g]
  intro e; (try simp only [e, Kn.eta, Pi.eta, Pu.eta, Rg.eta, Sc.eta, Sc.eta_r, Sc.eta_k, Sc.eta_2, -eq_self]); clear e
  intro e; (try simp only [e, Kn.eta, Pi.eta, Pu.eta, Rg.eta, Sc.eta, Sc.eta_r, Sc.eta_k, Sc.eta_2, -eq_self]); clear e
  refine ⟨fun c0 => ?_, fun c0 => ?_⟩
  (obtain rfl := eqz c0; rw [show vhalf 8 a b = blow ball from by unfold vhalf; simp]; try rfl)
  refine ⟨fun c1 => ?_, fun c1 => ?_⟩
  (obtain rfl := eqz c1; rw [show vhalf 12 a b = blow ball from by unfold vhalf; simp]; try rfl)
  refine ⟨fun c2 => ?_, fun c2 => ?_⟩
  intro e; (try simp only [e, Kn.eta, Pi.eta, Pu.eta, Rg.eta, Sc.eta, Sc.eta_r, Sc.eta_k, Sc.eta_2, -eq_self]); clear e
  refine ⟨fun c3 => ?_, fun c3 => ?_⟩
  intro e; (try simp only [e, Kn.eta, Pi.eta, Pu.eta, Rg.eta, Sc.eta, Sc.eta_r, Sc.eta_k, Sc.eta_2, -eq_self]); clear e
  intro e; (try simp only [e, Kn.eta, Pi.eta, Pu.eta, Rg.eta, Sc.eta, Sc.eta_r, Sc.eta_k, Sc.eta_2, -eq_self]); clear e
  refine ⟨fun c4 => ?_, fun c4 => ?_⟩
  (obtain rfl := eqz c2; have h4 := of_decide_eq_true c4; rw [show vhalf 6 a b = bdo 6 a.r (vone (opI .and .u64 (vsingle b) 31)).r from (by unfold vhalf; rw [if_neg (by decide), if_pos (by decide), if_pos c3]; exact if_pos h4)]; try rfl)
  (obtain rfl := eqz c2; have h4 := of_decide_eq_false c4; rw [show vhalf 6 a b = blow ball from (by unfold vhalf; rw [if_neg (by decide), if_pos (by decide), if_pos c3]; exact if_neg h4)]; try rfl)
  (obtain rfl := eqz c2; rw [show vhalf 6 a b = blow ball from by unfold vhalf; simp [c3]]; try rfl)
  refine ⟨fun c5 => ?_, fun c5 => ?_⟩
  intro e; (try simp only [e, Kn.eta, Pi.eta, Pu.eta, Rg.eta, Sc.eta, Sc.eta_r, Sc.eta_k, Sc.eta_2, -eq_self]); clear e
  refine ⟨fun c6 => ?_, fun c6 => ?_⟩
  intro e; (try simp only [e, Kn.eta, Pi.eta, Pu.eta, Rg.eta, Sc.eta, Sc.eta_r, Sc.eta_k, Sc.eta_2, -eq_self]); clear e
  intro e; (try simp only [e, Kn.eta, Pi.eta, Pu.eta, Rg.eta, Sc.eta, Sc.eta_r, Sc.eta_k, Sc.eta_2, -eq_self]); clear e
  refine ⟨fun c7 => ?_, fun c7 => ?_⟩
  (obtain rfl := eqz c5; have h4 := of_decide_eq_true c7; rw [show vhalf 7 a b = bdo 7 a.r (vone (opI .and .u64 (vsingle b) 31)).r from (by unfold vhalf; rw [if_neg (by decide), if_pos (by decide), if_pos c6]; exact if_pos h4)]; try rfl)
  (obtain rfl := eqz c5; have h4 := of_decide_eq_false c7; rw [show vhalf 7 a b = blow ball from (by unfold vhalf; rw [if_neg (by decide), if_pos (by decide), if_pos c6]; exact if_neg h4)]; try rfl)
  (obtain rfl := eqz c5; rw [show vhalf 7 a b = blow ball from by unfold vhalf; simp [c6]]; try rfl)
  intro e; (try simp only [e, Kn.eta, Pi.eta, Pu.eta, Rg.eta, Sc.eta, Sc.eta_r, Sc.eta_k, Sc.eta_2, -eq_self]); clear e
  refine ⟨fun c8 => ?_, fun c8 => ?_⟩
  (have n0 := nez c0; have n1 := nez c1; have n2 := nez c2; have n3 := nez c5; have h4 := of_decide_eq_true c8; rw [show vhalf op a b = bdo op a.r b.r from (by unfold vhalf; rw [if_neg (by omega), if_neg (by omega)]; exact if_pos h4)]; try rfl)
  (have n0 := nez c0; have n1 := nez c1; have n2 := nez c2; have n3 := nez c5; have h4 := of_decide_eq_false c8; rw [show vhalf op a b = blow ball from (by unfold vhalf; rw [if_neg (by omega), if_neg (by omega)]; exact if_neg h4)]; try rfl)
theorem sK_vhalf {sp : Spec} {key : Nat} (hF : sp.F key = sF_vhalf) (hP : sp.pre key = fun _ => True := by rfl) : SmOk Tryz.prog sp (sM_vhalf key) :=
  fun_ok (s := sM_vhalf key) hF hP (by kernel_rfl) tysok_VaB (smc (sK_all rfl) (smc (sK_low rfl) (smc (sK_vsingle rfl) (smc (sK_vone rfl) (smc (sK_do rfl) sm0))))) Tryz.func71 sR_vhalf (.inl rfl) (fun x0 gx0 x1 gx1 x2 gx2 x3 gx3 x4 gx4 x5 gx5 x6 gx6 x7 gx7 x8 gx8 x9 gx9 x10 gx10 x11 gx11 x12 gx12 hp ρ g => sX_vhalf x0 gx0 ⟨x1, x2, x3, x4, x5, x6⟩ ⟨gx1, gx2, gx3, gx4, gx5, gx6⟩ ⟨x7, x8, x9, x10, x11, x12⟩ ⟨gx7, gx8, gx9, gx10, gx11, gx12⟩ ρ g)
def sM_vbel2 (key : Nat) : Sm := ⟨50, key, [.one (.lit .i64 16)], [.agg kSc], false⟩
def sF_vbel2 : List Dt → List Dt
  | [] => [.z ((vbel 65535).ul), .z ((vbel 65535).uh), .z ((vbel 65535).sl), .z ((vbel 65535).sh), .z ((vbel 65535).v), .z ((vbel 65535).m)]
  | _ => []
def sT_vbel2 : Tr :=
(.call 0 (kRg) .nil 0
(.call 1 (kSc) (.cons (.var 0) (.cons (.lit 65535) (.vs 2 2 (.cons (.lit 0) (.cons (.lit 65535) .nil))))) 4
(.leaf (.vs 4 6 .nil))))
def sP_vbel2 : Spec := ⟨fun k => match k with | 0 => sF_all | 1 => sF_vnard | _ => fun _ => [], fun k => match k with | _ => fun _ => True⟩
set_option maxRecDepth 100000 in
theorem sR_vbel2 : treeIs tys_VaB [sM_all 0, sM_vnard 1] [] [] 200 Tryz.f50 [.one (.lit .i64 16)] [.agg kSc] false [] sT_vbel2 := ⟨by kernel_rfl, by kernel_rfl, by kernel_rfl⟩
set_option maxRecDepth 100000 in
set_option maxHeartbeats 8000000 in
theorem sX_vbel2  (ρ : Env) (g : varsD ρ 0 [] = []) : sT_vbel2.asks sP_vbel2 (fun ρ e => e.D ρ = sF_vbel2 []) ρ fun _ _ => False := by
  simp only [sT_vbel2, sP_vbel2, kRg, kSc, sF_all, sF_vnard, sV_vnard, sF_vbel2, Tr.asks, upd_same, okDs, okD, eqs, E.I, E.B, E.L, E.R, E.D, E.vs, dI, dB, dL, varD, varsD, List.getElem?_cons_zero, List.getElem?_cons_succ, List.cons_append, List.nil_append, Nat.zero_add, Nat.add_zero, Nat.reduceAdd, and_true, true_and, b2i_one, -eq_self, Kn.eta, Pi.eta, Pu.eta, Rg.eta, Sc.eta, Sc.eta_r, Sc.eta_k, Sc.eta_2]
  intro e; (try simp only [e, Kn.eta, Pi.eta, Pu.eta, Rg.eta, Sc.eta, Sc.eta_r, Sc.eta_k, Sc.eta_2, -eq_self]); clear e
  intro e; (try simp only [e, Kn.eta, Pi.eta, Pu.eta, Rg.eta, Sc.eta, Sc.eta_r, Sc.eta_k, Sc.eta_2, -eq_self]); clear e
  rfl
theorem sK_vbel2 {sp : Spec} {key : Nat} (hF : sp.F key = sF_vbel2) (hP : sp.pre key = fun _ => True := by rfl) : SmOk Tryz.prog sp (sM_vbel2 key) :=
  fun_ok (s := sM_vbel2 key) hF hP (by kernel_rfl) tysok_VaB (smc (sK_all rfl) (smc (sK_vnard rfl) sm0)) Tryz.func50 sR_vbel2 (.inl rfl) (fun  hp ρ g => sX_vbel2 ρ g)
def sM_vby2 (key : Nat) : Sm := ⟨16, key, [.one (.lit .i64 2)], [.agg kSc], false⟩
def sF_vby2 : List Dt → List Dt
  | [] => [.z ((vbel 65535).ul), .z ((vbel 65535).uh), .z ((vbel 65535).sl), .z ((vbel 65535).sh), .z ((vbel 65535).v), .z ((vbel 65535).m)]
  | _ => []
def sT_vby2 : Tr :=
(.call 0 (kSc) .nil 0
(.leaf (.vs 0 6 .nil)))
def sP_vby2 : Spec := ⟨fun k => match k with | 0 => sF_vbel2 | _ => fun _ => [], fun k => match k with | _ => fun _ => True⟩
set_option maxRecDepth 100000 in
theorem sR_vby2 : treeIs tys_VaB [sM_vbel2 0] [] [] 200 Tryz.f16 [.one (.lit .i64 2)] [.agg kSc] false [] sT_vby2 := ⟨by kernel_rfl, by kernel_rfl, by kernel_rfl⟩
set_option maxRecDepth 100000 in
set_option maxHeartbeats 8000000 in
theorem sX_vby2  (ρ : Env) (g : varsD ρ 0 [] = []) : sT_vby2.asks sP_vby2 (fun ρ e => e.D ρ = sF_vby2 []) ρ fun _ _ => False := by
  simp only [sT_vby2, sP_vby2, kSc, sF_vbel2, sF_vby2, Tr.asks, upd_same, okDs, okD, eqs, E.I, E.B, E.L, E.R, E.D, E.vs, dI, dB, dL, varD, varsD, List.getElem?_cons_zero, List.getElem?_cons_succ, List.cons_append, List.nil_append, Nat.zero_add, Nat.add_zero, Nat.reduceAdd, and_true, true_and, b2i_one, -eq_self, Kn.eta, Pi.eta, Pu.eta, Rg.eta, Sc.eta, Sc.eta_r, Sc.eta_k, Sc.eta_2]
  intro e; (try simp only [e, Kn.eta, Pi.eta, Pu.eta, Rg.eta, Sc.eta, Sc.eta_r, Sc.eta_k, Sc.eta_2, -eq_self]); clear e
  rfl
theorem sK_vby2 {sp : Spec} {key : Nat} (hF : sp.F key = sF_vby2) (hP : sp.pre key = fun _ => True := by rfl) : SmOk Tryz.prog sp (sM_vby2 key) :=
  fun_ok (s := sM_vby2 key) hF hP (by kernel_rfl) tysok_VaB (smc (sK_vbel2 rfl) sm0) Tryz.func16 sR_vby2 (.inl rfl) (fun  hp ρ g => sX_vby2 ρ g)
def sM_vbel4 (key : Nat) : Sm := ⟨50, key, [.one (.lit .i64 32)], [.agg kSc], false⟩
def sF_vbel4 : List Dt → List Dt
  | [] => [.z ((vbel 4294967295).ul), .z ((vbel 4294967295).uh), .z ((vbel 4294967295).sl), .z ((vbel 4294967295).sh), .z ((vbel 4294967295).v), .z ((vbel 4294967295).m)]
  | _ => []
def sT_vbel4 : Tr :=
(.call 0 (kRg) .nil 0
(.call 1 (kSc) (.cons (.var 0) (.cons (.lit 4294967295) (.vs 2 2 (.cons (.lit 0) (.cons (.lit 4294967295) .nil))))) 4
(.leaf (.vs 4 6 .nil))))
def sP_vbel4 : Spec := ⟨fun k => match k with | 0 => sF_all | 1 => sF_vnard | _ => fun _ => [], fun k => match k with | _ => fun _ => True⟩
set_option maxRecDepth 100000 in
theorem sR_vbel4 : treeIs tys_VaB [sM_all 0, sM_vnard 1] [] [] 200 Tryz.f50 [.one (.lit .i64 32)] [.agg kSc] false [] sT_vbel4 := ⟨by kernel_rfl, by kernel_rfl, by kernel_rfl⟩
set_option maxRecDepth 100000 in
set_option maxHeartbeats 8000000 in
theorem sX_vbel4  (ρ : Env) (g : varsD ρ 0 [] = []) : sT_vbel4.asks sP_vbel4 (fun ρ e => e.D ρ = sF_vbel4 []) ρ fun _ _ => False := by
  simp only [sT_vbel4, sP_vbel4, kRg, kSc, sF_all, sF_vnard, sV_vnard, sF_vbel4, Tr.asks, upd_same, okDs, okD, eqs, E.I, E.B, E.L, E.R, E.D, E.vs, dI, dB, dL, varD, varsD, List.getElem?_cons_zero, List.getElem?_cons_succ, List.cons_append, List.nil_append, Nat.zero_add, Nat.add_zero, Nat.reduceAdd, and_true, true_and, b2i_one, -eq_self, Kn.eta, Pi.eta, Pu.eta, Rg.eta, Sc.eta, Sc.eta_r, Sc.eta_k, Sc.eta_2]
  intro e; (try simp only [e, Kn.eta, Pi.eta, Pu.eta, Rg.eta, Sc.eta, Sc.eta_r, Sc.eta_k, Sc.eta_2, -eq_self]); clear e
  intro e; (try simp only [e, Kn.eta, Pi.eta, Pu.eta, Rg.eta, Sc.eta, Sc.eta_r, Sc.eta_k, Sc.eta_2, -eq_self]); clear e
  rfl
theorem sK_vbel4 {sp : Spec} {key : Nat} (hF : sp.F key = sF_vbel4) (hP : sp.pre key = fun _ => True := by rfl) : SmOk Tryz.prog sp (sM_vbel4 key) :=
  fun_ok (s := sM_vbel4 key) hF hP (by kernel_rfl) tysok_VaB (smc (sK_all rfl) (smc (sK_vnard rfl) sm0)) Tryz.func50 sR_vbel4 (.inl rfl) (fun  hp ρ g => sX_vbel4 ρ g)
def sM_vby4 (key : Nat) : Sm := ⟨16, key, [.one (.lit .i64 4)], [.agg kSc], false⟩
def sF_vby4 : List Dt → List Dt
  | [] => [.z ((vbel 4294967295).ul), .z ((vbel 4294967295).uh), .z ((vbel 4294967295).sl), .z ((vbel 4294967295).sh), .z ((vbel 4294967295).v), .z ((vbel 4294967295).m)]
  | _ => []
def sT_vby4 : Tr :=
(.call 0 (kSc) .nil 0
(.leaf (.vs 0 6 .nil)))
def sP_vby4 : Spec := ⟨fun k => match k with | 0 => sF_vbel4 | _ => fun _ => [], fun k => match k with | _ => fun _ => True⟩
set_option maxRecDepth 100000 in
theorem sR_vby4 : treeIs tys_VaB [sM_vbel4 0] [] [] 200 Tryz.f16 [.one (.lit .i64 4)] [.agg kSc] false [] sT_vby4 := ⟨by kernel_rfl, by kernel_rfl, by kernel_rfl⟩
set_option maxRecDepth 100000 in
set_option maxHeartbeats 8000000 in
theorem sX_vby4  (ρ : Env) (g : varsD ρ 0 [] = []) : sT_vby4.asks sP_vby4 (fun ρ e => e.D ρ = sF_vby4 []) ρ fun _ _ => False := by
  simp only [sT_vby4, sP_vby4, kSc, sF_vbel4, sF_vby4, Tr.asks, upd_same, okDs, okD, eqs, E.I, E.B, E.L, E.R, E.D, E.vs, dI, dB, dL, varD, varsD, List.getElem?_cons_zero, List.getElem?_cons_succ, List.cons_append, List.nil_append, Nat.zero_add, Nat.add_zero, Nat.reduceAdd, and_true, true_and, b2i_one, -eq_self, Kn.eta, Pi.eta, Pu.eta, Rg.eta, Sc.eta, Sc.eta_r, Sc.eta_k, Sc.eta_2]
  intro e; (try simp only [e, Kn.eta, Pi.eta, Pu.eta, Rg.eta, Sc.eta, Sc.eta_r, Sc.eta_k, Sc.eta_2, -eq_self]); clear e
  rfl
theorem sK_vby4 {sp : Spec} {key : Nat} (hF : sp.F key = sF_vby4) (hP : sp.pre key = fun _ => True := by rfl) : SmOk Tryz.prog sp (sM_vby4 key) :=
  fun_ok (s := sM_vby4 key) hF hP (by kernel_rfl) tysok_VaB (smc (sK_vbel4 rfl) sm0) Tryz.func16 sR_vby4 (.inl rfl) (fun  hp ρ g => sX_vby4 ρ g)
end Go.Proofs.YtcfnglbcgkappaaGreat
