/- Contracts of package value, by the symbolic run. -/
import Derived.Test.YtgfghplnankgnaaVaA
import Derived.Test.YtgfghplnankgnaaProg
import Derived.Laws.Externs
set_option linter.unusedVariables false
set_option linter.unusedSimpArgs false
namespace Go.Proofs.Ytgfghplnankgnaa
open Go.RowKit Go.ChangeShapes Go.WideShapes

def tys_VaB : List (Nat × TI) := [(2, ⟨false, 1, [.int .i64 (.lit 0)], [], none, some .i64, false, false, none, 8, false, none, false⟩),
 (3, ⟨false, 1, [.int .i64 (.lit 0)], [], none, some .i64, false, false, none, 8, false, none, false⟩),
 (23, ⟨false, 1, [.int .u64 (.lit 0)], [], none, some .u64, false, false, none, 8, false, none, false⟩),
 (25, ⟨true, 4, [.int .u64 (.lit 0), .int .u64 (.lit 0), .int .i64 (.lit 0), .int .i64 (.lit 0)], [(0, 23), (1, 23), (2, 2), (3, 2)], none, none, false, false, none, 32, false, none, false⟩),
 (27, ⟨true, 2, [.int .u64 (.lit 0), .int .u64 (.lit 0)], [(0, 23), (1, 23)], none, none, false, false, none, 16, false, none, false⟩),
 (29, ⟨true, 6, [.int .u64 (.lit 0), .int .u64 (.lit 0), .int .i64 (.lit 0), .int .i64 (.lit 0), .int .u64 (.lit 0), .int .u64 (.lit 0)], [(0, 25), (4, 27)], none, none, false, false, none, 48, false, none, false⟩)]
set_option maxRecDepth 100000 in
theorem tysck_VaB : (tys_VaB.all fun p => ckTI Try.prog p.1 p.2) = true := by kernel_rfl
theorem tyseq_VaB : (tys_VaB.all fun p => !p.2.eqok) = true := by kernel_rfl
theorem tyskn_VaB : (tys_VaB.all fun p => !p.2.keyok) = true := by kernel_rfl
theorem tysok_VaB : ∀ t i, (t, i) ∈ tys_VaB → TIok Try.prog t i := by
  intro t i h
  refine TIok_of (all_at (f := ckTI Try.prog) tysck_VaB h) (fun he => ?_) (fun he => ?_) (fun he => ?_)
  · have h1 := List.all_eq_true.1 tyseq_VaB (t, i) h
    simp [he] at h1
  · have h1 := List.all_eq_true.1 tyseq_VaB (t, i) h
    simp [he] at h1
  · have h1 := List.all_eq_true.1 tyskn_VaB (t, i) h
    simp [he] at h1
def sM_vcom (key : Nat) : Sm := ⟨64, key, [.agg kRg], [.agg kKn], false⟩
def sV_vcom (a : Rg) : List Dt := [.z ((kcom a).v), .z ((kcom a).m)]
def sF_vcom : List Dt → List Dt
  | [.z x0, .z x1, .z x2, .z x3] => sV_vcom ⟨x0, x1, x2, x3⟩
  | _ => []
def sT_vcom : Tr :=
(.call 0 ([.int .i64]) (.cons (.bin .xor .u64 (.var 0) (.var 1)) .nil) 4
(.br (.lt (.lit 0) (.var 4))
(.br (.lt (.bin .sub .i64 (.lit 64) (.var 4)) (.lit 0))
.panic
(.leaf (.cons (.bin .andNot .u64 (.var 0) (.bin .sub .u64 (.bin .shl .u64 (.lit 1) (.bin .sub .i64 (.lit 64) (.var 4))) (.lit 1))) (.cons (.bin .sub .u64 (.bin .shl .u64 (.lit 1) (.bin .sub .i64 (.lit 64) (.var 4))) (.lit 1)) .nil))))
(.leaf (.cons (.bin .andNot .u64 (.var 0) (.lit 18446744073709551615)) (.cons (.lit 18446744073709551615) .nil)))))
def sP_vcom : Spec := ⟨fun k => match k with | 0 => sF_lz | _ => fun _ => [], fun k => match k with | _ => fun _ => True⟩
set_option maxRecDepth 100000 in
theorem sR_vcom : treeIs tys_VaB [sM_lz 0] [] [] [] 200 Try.f64 [.agg kRg] [.agg kKn] false [.int .u64, .int .u64, .int .i64, .int .i64] sT_vcom := ⟨by kernel_rfl, by kernel_rfl, by kernel_rfl⟩
set_option maxRecDepth 100000 in
set_option maxHeartbeats 8000000 in
theorem sX_vcom (a : Rg) (ha : Rg.ok a) (ρ : Env) (g : varsD ρ 0 [.int .u64, .int .u64, .int .i64, .int .i64] = [.z a.ul, .z a.uh, .z a.sl, .z a.sh]) : sT_vcom.asks sP_vcom (fun ρ e => e.D ρ = sF_vcom [.z a.ul, .z a.uh, .z a.sl, .z a.sh]) ρ fun _ _ => False := by
  simp only [varsD, varD, List.cons.injEq, Dt.z.injEq, Dt.l.injEq, b2i_eq_iff, Nat.reduceAdd, and_true] at g
  simp only [sT_vcom, sP_vcom, sF_lz, sV_lz, sF_vcom, sV_vcom, Tr.asks, upd_same, okDs, okD, eqs, E.I, E.B, E.L, E.R, E.D, E.vs, dI, dB, dL, varD, varsD, List.getElem?_cons_zero, List.getElem?_cons_succ, List.cons_append, List.nil_append, Nat.zero_add, Nat.add_zero, Nat.reduceAdd, and_true, true_and, b2i_one, -eq_self, Kn.eta, Pi.eta, Pu.eta, Rg.eta, Sc.eta, Sc.eta_r, Sc.eta_k, Sc.eta_2, g]
  intro e; (try simp only [e, Kn.eta, Pi.eta, Pu.eta, Rg.eta, Sc.eta, Sc.eta_r, Sc.eta_k, Sc.eta_2, -eq_self]); clear e
  refine ⟨fun c0 => ?_, fun c0 => ?_⟩
  refine ⟨fun c1 => ?_, fun c1 => ?_⟩
  · (have hx := xor_bd a.ul a.uh; have hb : blenN (bits .xor .u64 a.ul a.uh).toNat ≤ 64 := blen_le (by omega); have h1 : IntKind.i64.wrap (64 - (64 - (blenN (bits .xor .u64 a.ul a.uh).toNat : Int))) < 0 := of_decide_eq_true c1; rw [w_i64] at h1; omega)
  · exact agg_Kn (kcom_t (Rg.wf_of ha))
  · exact agg_Kn (kcom_f (Rg.wf_of ha) c0)
theorem sK_vcom {sp : Spec} {key : Nat} (hF : sp.F key = sF_vcom) (hP : sp.pre key = fun _ => True := by rfl) : SmOk Try.prog sp (sM_vcom key) :=
  fun_ok (s := sM_vcom key) hF hP (by kernel_rfl) tysok_VaB (smc (sK_lz rfl) sm0) Try.func64 fn0 sR_vcom (.inl rfl) (fun x0 gx0 x1 gx1 x2 gx2 x3 gx3 hp ρ g => sX_vcom ⟨x0, x1, x2, x3⟩ ⟨gx0, gx1, gx2, gx3⟩ ρ g)
def sM_vnar (key : Nat) : Sm := ⟨61, key, [.agg kSc], [.agg kSc, .one .bool], true⟩
def sV_vnar (a : Sc) : List Dt := [.z ((vnar a).ul), .z ((vnar a).uh), .z ((vnar a).sl), .z ((vnar a).sh), .z ((vnar a).v), .z ((vnar a).m), .z (b2i (vnok a))]
def sF_vnar : List Dt → List Dt
  | [.z x0, .z x1, .z x2, .z x3, .z x4, .z x5] => sV_vnar ⟨x0, x1, x2, x3, x4, x5⟩
  | _ => []
def sT_vnar : Tr :=
(.call 0 ([.bool]) (.vs 0 6 .nil) 6
(.br (.bvar 6)
(.call 2 (kRg) .nil 7
(.call 3 (kRg ++ [.bool]) (.vs 0 5 (.cons (.bin .or .u64 (.var 4) (.var 5)) (.vs 9 2 .nil))) 11
(.br (.bvar 15)
(.call 5 (kKn) (.vs 11 4 .nil) 16
(.call 4 (kKn ++ [.bool]) (.vs 4 2 (.vs 16 2 .nil)) 18
(.br (.bvar 20)
(.call 3 (kRg ++ [.bool]) (.vs 11 4 (.cons (.var 18) (.cons (.bin .or .u64 (.var 18) (.var 19)) (.vs 9 2 .nil)))) 21
(.br (.bvar 25)
(.call 5 (kKn) (.vs 21 4 .nil) 26
(.call 4 (kKn ++ [.bool]) (.vs 18 2 (.vs 26 2 .nil)) 28
(.br (.bvar 30)
(.leaf (.vs 21 4 (.vs 28 2 (.consb (.tt true) .nil))))
(.call 1 (kSc) .nil 31
(.leaf (.vs 31 6 (.consb (.tt false) .nil)))))))
(.call 1 (kSc) .nil 26
(.leaf (.vs 26 6 (.consb (.tt false) .nil))))))
(.call 1 (kSc) .nil 21
(.leaf (.vs 21 6 (.consb (.tt false) .nil)))))))
(.call 1 (kSc) .nil 16
(.leaf (.vs 16 6 (.consb (.tt false) .nil)))))))
(.call 1 (kSc) .nil 7
(.leaf (.vs 7 6 (.consb (.tt false) .nil))))))
def sP_vnar : Spec := ⟨fun k => match k with | 0 => sF_vmay | 1 => sF_vall | 2 => sF_all | 3 => sF_meet | 4 => sF_kmeet | 5 => sF_vcom | _ => fun _ => [], fun k => match k with | _ => fun _ => True⟩
set_option maxRecDepth 100000 in
theorem sR_vnar : treeIs tys_VaB [sM_vmay 0, sM_vall 1, sM_all 2, sM_meet 3, sM_kmeet 4, sM_vcom 5] [] [] [] 200 Try.f61 [.agg kSc] [.agg kSc, .one .bool] true [.int .u64, .int .u64, .int .i64, .int .i64, .int .u64, .int .u64] sT_vnar := ⟨by kernel_rfl, by kernel_rfl, by kernel_rfl⟩
set_option maxRecDepth 100000 in
set_option maxHeartbeats 8000000 in
theorem sX_vnar (a : Sc) (ha : Sc.ok a) (ρ : Env) (g : varsD ρ 0 [.int .u64, .int .u64, .int .i64, .int .i64, .int .u64, .int .u64] = [.z a.ul, .z a.uh, .z a.sl, .z a.sh, .z a.v, .z a.m]) : sT_vnar.asks sP_vnar (fun ρ e => e.D ρ = sF_vnar [.z a.ul, .z a.uh, .z a.sl, .z a.sh, .z a.v, .z a.m]) ρ fun _ _ => False := by
  simp only [varsD, varD, List.cons.injEq, Dt.z.injEq, Dt.l.injEq, b2i_eq_iff, Nat.reduceAdd, and_true] at g
  simp only [sT_vnar, sP_vnar, kKn, kRg, kSc, sF_vmay, sF_vall, sF_all, sF_meet, sF_kmeet, sF_vcom, sV_vmay, sV_meet, sV_kmeet, sV_vcom, sF_vnar, sV_vnar, Tr.asks, upd_same, okDs, okD, eqs, E.I, E.B, E.L, E.R, E.D, E.vs, dI, dB, dL, varD, varsD, List.getElem?_cons_zero, List.getElem?_cons_succ, List.cons_append, List.nil_append, Nat.zero_add, Nat.add_zero, Nat.reduceAdd, and_true, true_and, b2i_one, -eq_self, Kn.eta, Pi.eta, Pu.eta, Rg.eta, Sc.eta, Sc.eta_r, Sc.eta_k, Sc.eta_2, g]
  intro e; (try simp only [e, Kn.eta, Pi.eta, Pu.eta, Rg.eta, Sc.eta, Sc.eta_r, Sc.eta_k, Sc.eta_2, -eq_self]); clear e
  refine ⟨fun c0 => ?_, fun c0 => ?_⟩
  intro e; (try simp only [e, Kn.eta, Pi.eta, Pu.eta, Rg.eta, Sc.eta, Sc.eta_r, Sc.eta_k, Sc.eta_2, -eq_self]); clear e
  intro e; (try simp only [e, Kn.eta, Pi.eta, Pu.eta, Rg.eta, Sc.eta, Sc.eta_r, Sc.eta_k, Sc.eta_2, -eq_self]); clear e
  refine ⟨fun c1 => ?_, fun c1 => ?_⟩
  intro e; (try simp only [e, Kn.eta, Pi.eta, Pu.eta, Rg.eta, Sc.eta, Sc.eta_r, Sc.eta_k, Sc.eta_2, -eq_self]); clear e
  intro e; (try simp only [e, Kn.eta, Pi.eta, Pu.eta, Rg.eta, Sc.eta, Sc.eta_r, Sc.eta_k, Sc.eta_2, -eq_self]); clear e
  refine ⟨fun c2 => ?_, fun c2 => ?_⟩
  intro e; (try simp only [e, Kn.eta, Pi.eta, Pu.eta, Rg.eta, Sc.eta, Sc.eta_r, Sc.eta_k, Sc.eta_2, -eq_self]); clear e
  refine ⟨fun c3 => ?_, fun c3 => ?_⟩
  intro e; (try simp only [e, Kn.eta, Pi.eta, Pu.eta, Rg.eta, Sc.eta, Sc.eta_r, Sc.eta_k, Sc.eta_2, -eq_self]); clear e
  intro e; (try simp only [e, Kn.eta, Pi.eta, Pu.eta, Rg.eta, Sc.eta, Sc.eta_r, Sc.eta_k, Sc.eta_2, -eq_self]); clear e
  refine ⟨fun c4 => ?_, fun c4 => ?_⟩
  · (have q := vn_t (a := a) c0 c1 c2 c3 c4; rw [q.1, q.2]; try rfl)
  intro e; (try simp only [e, Kn.eta, Pi.eta, Pu.eta, Rg.eta, Sc.eta, Sc.eta_r, Sc.eta_k, Sc.eta_2, -eq_self]); clear e
  · (have q := vn_f (a := a) (.inr (.inr (.inr (.inr (c4))))); rw [q.1, q.2]; try rfl)
  intro e; (try simp only [e, Kn.eta, Pi.eta, Pu.eta, Rg.eta, Sc.eta, Sc.eta_r, Sc.eta_k, Sc.eta_2, -eq_self]); clear e
  · (have q := vn_f (a := a) (.inr (.inr (.inr (.inl c3)))); rw [q.1, q.2]; try rfl)
  intro e; (try simp only [e, Kn.eta, Pi.eta, Pu.eta, Rg.eta, Sc.eta, Sc.eta_r, Sc.eta_k, Sc.eta_2, -eq_self]); clear e
  · (have q := vn_f (a := a) (.inr (.inr (.inl c2))); rw [q.1, q.2]; try rfl)
  intro e; (try simp only [e, Kn.eta, Pi.eta, Pu.eta, Rg.eta, Sc.eta, Sc.eta_r, Sc.eta_k, Sc.eta_2, -eq_self]); clear e
  · (have q := vn_f (a := a) (.inr (.inl c1)); rw [q.1, q.2]; try rfl)
  intro e; (try simp only [e, Kn.eta, Pi.eta, Pu.eta, Rg.eta, Sc.eta, Sc.eta_r, Sc.eta_k, Sc.eta_2, -eq_self]); clear e
  · (have q := vn_f (a := a) (.inl c0); rw [q.1, q.2]; try rfl)
theorem sK_vnar {sp : Spec} {key : Nat} (hF : sp.F key = sF_vnar) (hP : sp.pre key = fun _ => True := by rfl) : SmOk Try.prog sp (sM_vnar key) :=
  fun_ok (s := sM_vnar key) hF hP (by kernel_rfl) tysok_VaB (smc (sK_vmay rfl) (smc (sK_vall rfl) (smc (sK_all rfl) (smc (sK_meet rfl) (smc (sK_kmeet rfl) (smc (sK_vcom rfl) sm0)))))) Try.func61 fn0 sR_vnar (.inl rfl) (fun x0 gx0 x1 gx1 x2 gx2 x3 gx3 x4 gx4 x5 gx5 hp ρ g => sX_vnar ⟨x0, x1, x2, x3, x4, x5⟩ ⟨gx0, gx1, gx2, gx3, gx4, gx5⟩ ρ g)
def sM_vnard (key : Nat) : Sm := ⟨48, key, [.agg kSc], [.agg kSc], false⟩
def sV_vnard (a : Sc) : List Dt := [.z ((vnar a).ul), .z ((vnar a).uh), .z ((vnar a).sl), .z ((vnar a).sh), .z ((vnar a).v), .z ((vnar a).m)]
def sF_vnard : List Dt → List Dt
  | [.z x0, .z x1, .z x2, .z x3, .z x4, .z x5] => sV_vnard ⟨x0, x1, x2, x3, x4, x5⟩
  | _ => []
def sT_vnard : Tr :=
(.call 0 (kSc ++ [.bool]) (.vs 0 6 .nil) 6
(.leaf (.vs 6 6 .nil)))
def sP_vnard : Spec := ⟨fun k => match k with | 0 => sF_vnar | _ => fun _ => [], fun k => match k with | _ => fun _ => True⟩
set_option maxRecDepth 100000 in
theorem sR_vnard : treeIs tys_VaB [sM_vnar 0] [] [] [] 200 Try.f48 [.agg kSc] [.agg kSc] false [.int .u64, .int .u64, .int .i64, .int .i64, .int .u64, .int .u64] sT_vnard := ⟨by kernel_rfl, by kernel_rfl, by kernel_rfl⟩
set_option maxRecDepth 100000 in
set_option maxHeartbeats 8000000 in
theorem sX_vnard (a : Sc) (ha : Sc.ok a) (ρ : Env) (g : varsD ρ 0 [.int .u64, .int .u64, .int .i64, .int .i64, .int .u64, .int .u64] = [.z a.ul, .z a.uh, .z a.sl, .z a.sh, .z a.v, .z a.m]) : sT_vnard.asks sP_vnard (fun ρ e => e.D ρ = sF_vnard [.z a.ul, .z a.uh, .z a.sl, .z a.sh, .z a.v, .z a.m]) ρ fun _ _ => False := by
  simp only [varsD, varD, List.cons.injEq, Dt.z.injEq, Dt.l.injEq, b2i_eq_iff, Nat.reduceAdd, and_true] at g
  simp only [sT_vnard, sP_vnard, kSc, sF_vnar, sV_vnar, sF_vnard, sV_vnard, Tr.asks, upd_same, okDs, okD, eqs, E.I, E.B, E.L, E.R, E.D, E.vs, dI, dB, dL, varD, varsD, List.getElem?_cons_zero, List.getElem?_cons_succ, List.cons_append, List.nil_append, Nat.zero_add, Nat.add_zero, Nat.reduceAdd, and_true, true_and, b2i_one, -eq_self, Kn.eta, Pi.eta, Pu.eta, Rg.eta, Sc.eta, Sc.eta_r, Sc.eta_k, Sc.eta_2, g]
  intro e; (try simp only [e, Kn.eta, Pi.eta, Pu.eta, Rg.eta, Sc.eta, Sc.eta_r, Sc.eta_k, Sc.eta_2, -eq_self]); clear e
  · rfl
theorem sK_vnard {sp : Spec} {key : Nat} (hF : sp.F key = sF_vnard) (hP : sp.pre key = fun _ => True := by rfl) : SmOk Try.prog sp (sM_vnard key) :=
  fun_ok (s := sM_vnard key) hF hP (by kernel_rfl) tysok_VaB (smc (sK_vnar rfl) sm0) Try.func48 fn0 sR_vnard (.inl rfl) (fun x0 gx0 x1 gx1 x2 gx2 x3 gx3 x4 gx4 x5 gx5 hp ρ g => sX_vnard ⟨x0, x1, x2, x3, x4, x5⟩ ⟨gx0, gx1, gx2, gx3, gx4, gx5⟩ ρ g)
def sM_vtwoj (key : Nat) : Sm := ⟨32, key, [.agg kSc, .agg kSc, .one (.fn 33), .one (.fn 34)], [.agg kSc], false⟩
def sV_vtwoj (a : Sc) (b : Sc) : List Dt := [.z ((vjoin a b).ul), .z ((vjoin a b).uh), .z ((vjoin a b).sl), .z ((vjoin a b).sh), .z ((vjoin a b).v), .z ((vjoin a b).m)]
def sF_vtwoj : List Dt → List Dt
  | [.z x0, .z x1, .z x2, .z x3, .z x4, .z x5, .z x6, .z x7, .z x8, .z x9, .z x10, .z x11] => sV_vtwoj ⟨x0, x1, x2, x3, x4, x5⟩ ⟨x6, x7, x8, x9, x10, x11⟩
  | _ => []
def sT_vtwoj : Tr :=
(.call 0 ([.bool]) (.vs 0 6 .nil) 12
(.br (.bvar 12)
(.call 0 ([.bool]) (.vs 6 6 .nil) 13
(.br (.bvar 13)
(.call 3 (kRg) (.vs 0 4 (.vs 6 4 .nil)) 14
(.call 4 (kKn) (.vs 4 2 (.vs 10 2 .nil)) 18
(.call 2 (kSc) (.vs 14 6 .nil) 20
(.leaf (.vs 20 6 .nil)))))
(.call 1 (kSc) .nil 14
(.leaf (.vs 14 6 .nil)))))
(.call 1 (kSc) .nil 13
(.leaf (.vs 13 6 .nil)))))
def sP_vtwoj : Spec := ⟨fun k => match k with | 0 => sF_vmay | 1 => sF_vall | 2 => sF_vnard | 3 => sF_join | 4 => sF_kjoin | _ => fun _ => [], fun k => match k with | _ => fun _ => True⟩
set_option maxRecDepth 100000 in
theorem sR_vtwoj : treeIs tys_VaB [sM_vmay 0, sM_vall 1, sM_vnard 2, sM_join 3, sM_kjoin 4] [] [] [] 200 Try.f32 [.agg kSc, .agg kSc, .one (.fn 33), .one (.fn 34)] [.agg kSc] false [.int .u64, .int .u64, .int .i64, .int .i64, .int .u64, .int .u64, .int .u64, .int .u64, .int .i64, .int .i64, .int .u64, .int .u64] sT_vtwoj := ⟨by kernel_rfl, by kernel_rfl, by kernel_rfl⟩
set_option maxRecDepth 100000 in
set_option maxHeartbeats 8000000 in
theorem sX_vtwoj (a : Sc) (ha : Sc.ok a) (b : Sc) (hb : Sc.ok b)   (ρ : Env) (g : varsD ρ 0 [.int .u64, .int .u64, .int .i64, .int .i64, .int .u64, .int .u64, .int .u64, .int .u64, .int .i64, .int .i64, .int .u64, .int .u64] = [.z a.ul, .z a.uh, .z a.sl, .z a.sh, .z a.v, .z a.m, .z b.ul, .z b.uh, .z b.sl, .z b.sh, .z b.v, .z b.m]) : sT_vtwoj.asks sP_vtwoj (fun ρ e => e.D ρ = sF_vtwoj [.z a.ul, .z a.uh, .z a.sl, .z a.sh, .z a.v, .z a.m, .z b.ul, .z b.uh, .z b.sl, .z b.sh, .z b.v, .z b.m]) ρ fun _ _ => False := by
  simp only [varsD, varD, List.cons.injEq, Dt.z.injEq, Dt.l.injEq, b2i_eq_iff, Nat.reduceAdd, and_true] at g
  simp only [sT_vtwoj, sP_vtwoj, kKn, kRg, kSc, sF_vmay, sF_vall, sF_vnard, sF_join, sF_kjoin, sV_vmay, sV_vnard, sV_join, sV_kjoin, sF_vtwoj, sV_vtwoj, Tr.asks, upd_same, okDs, okD, eqs, E.I, E.B, E.L, E.R, E.D, E.vs, dI, dB, dL, varD, varsD, List.getElem?_cons_zero, List.getElem?_cons_succ, List.cons_append, List.nil_append, Nat.zero_add, Nat.add_zero, Nat.reduceAdd, and_true, true_and, b2i_one, -eq_self, Kn.eta, Pi.eta, Pu.eta, Rg.eta, Sc.eta, Sc.eta_r, Sc.eta_k, Sc.eta_2, g]
  intro e; (try simp only [e, Kn.eta, Pi.eta, Pu.eta, Rg.eta, Sc.eta, Sc.eta_r, Sc.eta_k, Sc.eta_2, -eq_self]); clear e
  refine ⟨fun c0 => ?_, fun c0 => ?_⟩
  intro e; (try simp only [e, Kn.eta, Pi.eta, Pu.eta, Rg.eta, Sc.eta, Sc.eta_r, Sc.eta_k, Sc.eta_2, -eq_self]); clear e
  refine ⟨fun c1 => ?_, fun c1 => ?_⟩
  intro e; (try simp only [e, Kn.eta, Pi.eta, Pu.eta, Rg.eta, Sc.eta, Sc.eta_r, Sc.eta_k, Sc.eta_2, -eq_self]); clear e
  intro e; (try simp only [e, Kn.eta, Pi.eta, Pu.eta, Rg.eta, Sc.eta, Sc.eta_r, Sc.eta_k, Sc.eta_2, -eq_self]); clear e
  intro e; (try simp only [e, Kn.eta, Pi.eta, Pu.eta, Rg.eta, Sc.eta, Sc.eta_r, Sc.eta_k, Sc.eta_2, -eq_self]); clear e
  · (rw [show vjoin a b = vnar (sc (bjoin a.r b.r) (kjoin a.k b.k)) from if_pos ⟨c0, c1⟩]; try rfl)
  intro e; (try simp only [e, Kn.eta, Pi.eta, Pu.eta, Rg.eta, Sc.eta, Sc.eta_r, Sc.eta_k, Sc.eta_2, -eq_self]); clear e
  · (rw [show vjoin a b = vall from if_neg (fun q => by simp_all)]; try rfl)
  intro e; (try simp only [e, Kn.eta, Pi.eta, Pu.eta, Rg.eta, Sc.eta, Sc.eta_r, Sc.eta_k, Sc.eta_2, -eq_self]); clear e
  · (rw [show vjoin a b = vall from if_neg (fun q => by simp_all)]; try rfl)
theorem sK_vtwoj {sp : Spec} {key : Nat} (hF : sp.F key = sF_vtwoj) (hP : sp.pre key = fun _ => True := by rfl) : SmOk Try.prog sp (sM_vtwoj key) :=
  fun_ok (s := sM_vtwoj key) hF hP (by kernel_rfl) tysok_VaB (smc (sK_vmay rfl) (smc (sK_vall rfl) (smc (sK_vnard rfl) (smc (sK_join rfl) (smc (sK_kjoin rfl) sm0))))) Try.func32 fn0 sR_vtwoj (.inl rfl) (fun x0 gx0 x1 gx1 x2 gx2 x3 gx3 x4 gx4 x5 gx5 x6 gx6 x7 gx7 x8 gx8 x9 gx9 x10 gx10 x11 gx11 hp ρ g => sX_vtwoj ⟨x0, x1, x2, x3, x4, x5⟩ ⟨gx0, gx1, gx2, gx3, gx4, gx5⟩ ⟨x6, x7, x8, x9, x10, x11⟩ ⟨gx6, gx7, gx8, gx9, gx10, gx11⟩ ρ g)
def sM_vjoin (key : Nat) : Sm := ⟨20, key, [.agg kSc, .agg kSc], [.agg kSc], false⟩
def sV_vjoin (a : Sc) (b : Sc) : List Dt := [.z ((vjoin a b).ul), .z ((vjoin a b).uh), .z ((vjoin a b).sl), .z ((vjoin a b).sh), .z ((vjoin a b).v), .z ((vjoin a b).m)]
def sF_vjoin : List Dt → List Dt
  | [.z x0, .z x1, .z x2, .z x3, .z x4, .z x5, .z x6, .z x7, .z x8, .z x9, .z x10, .z x11] => sV_vjoin ⟨x0, x1, x2, x3, x4, x5⟩ ⟨x6, x7, x8, x9, x10, x11⟩
  | _ => []
def sT_vjoin : Tr :=
(.call 0 (kSc) (.vs 0 12 .nil) 12
(.leaf (.vs 12 6 .nil)))
def sP_vjoin : Spec := ⟨fun k => match k with | 0 => sF_vtwoj | _ => fun _ => [], fun k => match k with | _ => fun _ => True⟩
set_option maxRecDepth 100000 in
theorem sR_vjoin : treeIs tys_VaB [sM_vtwoj 0] [] [] [] 200 Try.f20 [.agg kSc, .agg kSc] [.agg kSc] false [.int .u64, .int .u64, .int .i64, .int .i64, .int .u64, .int .u64, .int .u64, .int .u64, .int .i64, .int .i64, .int .u64, .int .u64] sT_vjoin := ⟨by kernel_rfl, by kernel_rfl, by kernel_rfl⟩
set_option maxRecDepth 100000 in
set_option maxHeartbeats 8000000 in
theorem sX_vjoin (a : Sc) (ha : Sc.ok a) (b : Sc) (hb : Sc.ok b) (ρ : Env) (g : varsD ρ 0 [.int .u64, .int .u64, .int .i64, .int .i64, .int .u64, .int .u64, .int .u64, .int .u64, .int .i64, .int .i64, .int .u64, .int .u64] = [.z a.ul, .z a.uh, .z a.sl, .z a.sh, .z a.v, .z a.m, .z b.ul, .z b.uh, .z b.sl, .z b.sh, .z b.v, .z b.m]) : sT_vjoin.asks sP_vjoin (fun ρ e => e.D ρ = sF_vjoin [.z a.ul, .z a.uh, .z a.sl, .z a.sh, .z a.v, .z a.m, .z b.ul, .z b.uh, .z b.sl, .z b.sh, .z b.v, .z b.m]) ρ fun _ _ => False := by
  simp only [varsD, varD, List.cons.injEq, Dt.z.injEq, Dt.l.injEq, b2i_eq_iff, Nat.reduceAdd, and_true] at g
  simp only [sT_vjoin, sP_vjoin, kSc, sF_vtwoj, sV_vtwoj, sF_vjoin, sV_vjoin, Tr.asks, upd_same, okDs, okD, eqs, E.I, E.B, E.L, E.R, E.D, E.vs, dI, dB, dL, varD, varsD, List.getElem?_cons_zero, List.getElem?_cons_succ, List.cons_append, List.nil_append, Nat.zero_add, Nat.add_zero, Nat.reduceAdd, and_true, true_and, b2i_one, -eq_self, Kn.eta, Pi.eta, Pu.eta, Rg.eta, Sc.eta, Sc.eta_r, Sc.eta_k, Sc.eta_2, g]
  intro e; (try simp only [e, Kn.eta, Pi.eta, Pu.eta, Rg.eta, Sc.eta, Sc.eta_r, Sc.eta_k, Sc.eta_2, -eq_self]); clear e
  · rfl
theorem sK_vjoin {sp : Spec} {key : Nat} (hF : sp.F key = sF_vjoin) (hP : sp.pre key = fun _ => True := by rfl) : SmOk Try.prog sp (sM_vjoin key) :=
  fun_ok (s := sM_vjoin key) hF hP (by kernel_rfl) tysok_VaB (smc (sK_vtwoj rfl) sm0) Try.func20 fn0 sR_vjoin (.inl rfl) (fun x0 gx0 x1 gx1 x2 gx2 x3 gx3 x4 gx4 x5 gx5 x6 gx6 x7 gx7 x8 gx8 x9 gx9 x10 gx10 x11 gx11 hp ρ g => sX_vjoin ⟨x0, x1, x2, x3, x4, x5⟩ ⟨gx0, gx1, gx2, gx3, gx4, gx5⟩ ⟨x6, x7, x8, x9, x10, x11⟩ ⟨gx6, gx7, gx8, gx9, gx10, gx11⟩ ρ g)
def sM_vendu (key : Nat) : Sm := ⟨37, key, [.one (.int .u64), .one (.int .u64), .one (.int .u64), .one .bool], [.one (.int .u64)], false⟩
def sV_vendu (a : Int) (b : Int) (c : Int) (t : Bool) : List Dt := [.z (if (a == b) = false ∧ t = true then c else a)]
def sF_vendu : List Dt → List Dt
  | [.z x0, .z x1, .z x2, .z x3] => sV_vendu x0 x1 x2 (x3 == 1)
  | _ => []
def sT_vendu : Tr :=
(.br (.eq (.var 0) (.var 1))
(.leaf (.cons (.var 0) .nil))
(.br (.bvar 3)
(.leaf (.cons (.var 2) .nil))
(.leaf (.cons (.var 0) .nil))))
def sP_vendu : Spec := ⟨fun k => match k with | _ => fun _ => [], fun k => match k with | _ => fun _ => True⟩
set_option maxRecDepth 100000 in
theorem sR_vendu : treeIs tys_VaB [] [] [] [] 200 Try.f37 [.one (.int .u64), .one (.int .u64), .one (.int .u64), .one .bool] [.one (.int .u64)] false [.int .u64, .int .u64, .int .u64, .bool] sT_vendu := ⟨by kernel_rfl, by kernel_rfl, by kernel_rfl⟩
set_option maxRecDepth 100000 in
set_option maxHeartbeats 8000000 in
theorem sX_vendu (a : Int) (ha : inK .u64 a = true) (b : Int) (hb : inK .u64 b = true) (c : Int) (hc : inK .u64 c = true) (t : Bool) (ρ : Env) (g : varsD ρ 0 [.int .u64, .int .u64, .int .u64, .bool] = [.z a, .z b, .z c, .z (b2i t)]) : sT_vendu.asks sP_vendu (fun ρ e => e.D ρ = sF_vendu [.z a, .z b, .z c, .z (b2i t)]) ρ fun _ _ => False := by
  simp only [varsD, varD, List.cons.injEq, Dt.z.injEq, Dt.l.injEq, b2i_eq_iff, Nat.reduceAdd, and_true] at g
  simp only [sT_vendu, sP_vendu, sF_vendu, sV_vendu, Tr.asks, upd_same, okDs, okD, eqs, E.I, E.B, E.L, E.R, E.D, E.vs, dI, dB, dL, varD, varsD, List.getElem?_cons_zero, List.getElem?_cons_succ, List.cons_append, List.nil_append, Nat.zero_add, Nat.add_zero, Nat.reduceAdd, and_true, true_and, b2i_one, -eq_self, Sc.eta_r, Sc.eta_k, Sc.eta_2, g]
  refine ⟨fun c0 => ?_, fun c0 => ?_⟩
  · (simp_all)
  refine ⟨fun c1 => ?_, fun c1 => ?_⟩
  · (simp_all)
  · (simp_all)
theorem sK_vendu {sp : Spec} {key : Nat} (hF : sp.F key = sF_vendu) (hP : sp.pre key = fun _ => True := by rfl) : SmOk Try.prog sp (sM_vendu key) :=
  fun_ok (s := sM_vendu key) hF hP (by kernel_rfl) tysok_VaB (sm0) Try.func37 fn0 sR_vendu (.inl rfl) (fun x0 gx0 x1 gx1 x2 gx2 x3 hp ρ g => sX_vendu x0 gx0 x1 gx1 x2 gx2 x3 ρ g)
def sM_vendi (key : Nat) : Sm := ⟨38, key, [.one (.int .i64), .one (.int .i64), .one (.int .i64), .one .bool], [.one (.int .i64)], false⟩
def sV_vendi (a : Int) (b : Int) (c : Int) (t : Bool) : List Dt := [.z (if (a == b) = false ∧ t = true then c else a)]
def sF_vendi : List Dt → List Dt
  | [.z x0, .z x1, .z x2, .z x3] => sV_vendi x0 x1 x2 (x3 == 1)
  | _ => []
def sT_vendi : Tr :=
(.br (.eq (.var 0) (.var 1))
(.leaf (.cons (.var 0) .nil))
(.br (.bvar 3)
(.leaf (.cons (.var 2) .nil))
(.leaf (.cons (.var 0) .nil))))
def sP_vendi : Spec := ⟨fun k => match k with | _ => fun _ => [], fun k => match k with | _ => fun _ => True⟩
set_option maxRecDepth 100000 in
theorem sR_vendi : treeIs tys_VaB [] [] [] [] 200 Try.f38 [.one (.int .i64), .one (.int .i64), .one (.int .i64), .one .bool] [.one (.int .i64)] false [.int .i64, .int .i64, .int .i64, .bool] sT_vendi := ⟨by kernel_rfl, by kernel_rfl, by kernel_rfl⟩
set_option maxRecDepth 100000 in
set_option maxHeartbeats 8000000 in
theorem sX_vendi (a : Int) (ha : inK .i64 a = true) (b : Int) (hb : inK .i64 b = true) (c : Int) (hc : inK .i64 c = true) (t : Bool) (ρ : Env) (g : varsD ρ 0 [.int .i64, .int .i64, .int .i64, .bool] = [.z a, .z b, .z c, .z (b2i t)]) : sT_vendi.asks sP_vendi (fun ρ e => e.D ρ = sF_vendi [.z a, .z b, .z c, .z (b2i t)]) ρ fun _ _ => False := by
  simp only [varsD, varD, List.cons.injEq, Dt.z.injEq, Dt.l.injEq, b2i_eq_iff, Nat.reduceAdd, and_true] at g
  simp only [sT_vendi, sP_vendi, sF_vendi, sV_vendi, Tr.asks, upd_same, okDs, okD, eqs, E.I, E.B, E.L, E.R, E.D, E.vs, dI, dB, dL, varD, varsD, List.getElem?_cons_zero, List.getElem?_cons_succ, List.cons_append, List.nil_append, Nat.zero_add, Nat.add_zero, Nat.reduceAdd, and_true, true_and, b2i_one, -eq_self, Sc.eta_r, Sc.eta_k, Sc.eta_2, g]
  refine ⟨fun c0 => ?_, fun c0 => ?_⟩
  · (simp_all)
  refine ⟨fun c1 => ?_, fun c1 => ?_⟩
  · (simp_all)
  · (simp_all)
theorem sK_vendi {sp : Spec} {key : Nat} (hF : sp.F key = sF_vendi) (hP : sp.pre key = fun _ => True := by rfl) : SmOk Try.prog sp (sM_vendi key) :=
  fun_ok (s := sM_vendi key) hF hP (by kernel_rfl) tysok_VaB (sm0) Try.func38 fn0 sR_vendi (.inl rfl) (fun x0 gx0 x1 gx1 x2 gx2 x3 hp ρ g => sX_vendi x0 gx0 x1 gx1 x2 gx2 x3 ρ g)
def sM_vwid0 (key : Nat) : Sm := ⟨35, key, [.agg kRg, .agg kRg], [.agg kRg], false⟩
def sV_vwid0 (a : Rg) (b : Rg) : List Dt := [.z ((bwid a b).ul), .z ((bwid a b).uh), .z ((bwid a b).sl), .z ((bwid a b).sh)]
def sF_vwid0 : List Dt → List Dt
  | [.z x0, .z x1, .z x2, .z x3, .z x4, .z x5, .z x6, .z x7] => sV_vwid0 ⟨x0, x1, x2, x3⟩ ⟨x4, x5, x6, x7⟩
  | _ => []
def sT_vwid0 : Tr :=
(.call 0 (kRg) .nil 8
(.call 1 ([.int .u64]) (.cons (.var 0) (.cons (.var 4) (.cons (.var 8) (.consb (.lt (.var 4) (.var 0)) .nil)))) 12
(.call 1 ([.int .u64]) (.cons (.var 1) (.cons (.var 5) (.cons (.var 9) (.consb (.lt (.var 1) (.var 5)) .nil)))) 13
(.call 2 ([.int .i64]) (.cons (.var 2) (.cons (.var 6) (.cons (.var 10) (.consb (.lt (.var 6) (.var 2)) .nil)))) 14
(.call 2 ([.int .i64]) (.cons (.var 3) (.cons (.var 7) (.cons (.var 11) (.consb (.lt (.var 3) (.var 7)) .nil)))) 15
(.leaf (.vs 12 4 .nil)))))))
def sP_vwid0 : Spec := ⟨fun k => match k with | 0 => sF_all | 1 => sF_vendu | 2 => sF_vendi | _ => fun _ => [], fun k => match k with | _ => fun _ => True⟩
set_option maxRecDepth 100000 in
theorem sR_vwid0 : treeIs tys_VaB [sM_all 0, sM_vendu 1, sM_vendi 2] [] [] [] 200 Try.f35 [.agg kRg, .agg kRg] [.agg kRg] false [.int .u64, .int .u64, .int .i64, .int .i64, .int .u64, .int .u64, .int .i64, .int .i64] sT_vwid0 := ⟨by kernel_rfl, by kernel_rfl, by kernel_rfl⟩
set_option maxRecDepth 100000 in
set_option maxHeartbeats 8000000 in
theorem sX_vwid0 (a : Rg) (ha : Rg.ok a) (b : Rg) (hb : Rg.ok b) (ρ : Env) (g : varsD ρ 0 [.int .u64, .int .u64, .int .i64, .int .i64, .int .u64, .int .u64, .int .i64, .int .i64] = [.z a.ul, .z a.uh, .z a.sl, .z a.sh, .z b.ul, .z b.uh, .z b.sl, .z b.sh]) : sT_vwid0.asks sP_vwid0 (fun ρ e => e.D ρ = sF_vwid0 [.z a.ul, .z a.uh, .z a.sl, .z a.sh, .z b.ul, .z b.uh, .z b.sl, .z b.sh]) ρ fun _ _ => False := by
  simp only [varsD, varD, List.cons.injEq, Dt.z.injEq, Dt.l.injEq, b2i_eq_iff, Nat.reduceAdd, and_true] at g
  simp only [sT_vwid0, sP_vwid0, kRg, sF_all, sF_vendu, sF_vendi, sV_vendu, sV_vendi, sF_vwid0, sV_vwid0, Tr.asks, upd_same, okDs, okD, eqs, E.I, E.B, E.L, E.R, E.D, E.vs, dI, dB, dL, varD, varsD, List.getElem?_cons_zero, List.getElem?_cons_succ, List.cons_append, List.nil_append, Nat.zero_add, Nat.add_zero, Nat.reduceAdd, and_true, true_and, b2i_one, -eq_self, Kn.eta, Pi.eta, Pu.eta, Rg.eta, Sc.eta, Sc.eta_r, Sc.eta_k, Sc.eta_2, g]
  intro e; (try simp only [e, Kn.eta, Pi.eta, Pu.eta, Rg.eta, Sc.eta, Sc.eta_r, Sc.eta_k, Sc.eta_2, -eq_self]); clear e
  intro e; (try simp only [e, Kn.eta, Pi.eta, Pu.eta, Rg.eta, Sc.eta, Sc.eta_r, Sc.eta_k, Sc.eta_2, -eq_self]); clear e
  intro e; (try simp only [e, Kn.eta, Pi.eta, Pu.eta, Rg.eta, Sc.eta, Sc.eta_r, Sc.eta_k, Sc.eta_2, -eq_self]); clear e
  intro e; (try simp only [e, Kn.eta, Pi.eta, Pu.eta, Rg.eta, Sc.eta, Sc.eta_r, Sc.eta_k, Sc.eta_2, -eq_self]); clear e
  intro e; (try simp only [e, Kn.eta, Pi.eta, Pu.eta, Rg.eta, Sc.eta, Sc.eta_r, Sc.eta_k, Sc.eta_2, -eq_self]); clear e
  · rfl
theorem sK_vwid0 {sp : Spec} {key : Nat} (hF : sp.F key = sF_vwid0) (hP : sp.pre key = fun _ => True := by rfl) : SmOk Try.prog sp (sM_vwid0 key) :=
  fun_ok (s := sM_vwid0 key) hF hP (by kernel_rfl) tysok_VaB (smc (sK_all rfl) (smc (sK_vendu rfl) (smc (sK_vendi rfl) sm0))) Try.func35 fn0 sR_vwid0 (.inl rfl) (fun x0 gx0 x1 gx1 x2 gx2 x3 gx3 x4 gx4 x5 gx5 x6 gx6 x7 gx7 hp ρ g => sX_vwid0 ⟨x0, x1, x2, x3⟩ ⟨gx0, gx1, gx2, gx3⟩ ⟨x4, x5, x6, x7⟩ ⟨gx4, gx5, gx6, gx7⟩ ρ g)
def sM_vtwow (key : Nat) : Sm := ⟨32, key, [.agg kSc, .agg kSc, .one (.fn 35), .one (.fn 34)], [.agg kSc], false⟩
def sV_vtwow (a : Sc) (b : Sc) : List Dt := [.z ((vwid a b).ul), .z ((vwid a b).uh), .z ((vwid a b).sl), .z ((vwid a b).sh), .z ((vwid a b).v), .z ((vwid a b).m)]
def sF_vtwow : List Dt → List Dt
  | [.z x0, .z x1, .z x2, .z x3, .z x4, .z x5, .z x6, .z x7, .z x8, .z x9, .z x10, .z x11] => sV_vtwow ⟨x0, x1, x2, x3, x4, x5⟩ ⟨x6, x7, x8, x9, x10, x11⟩
  | _ => []
def sT_vtwow : Tr :=
(.call 0 ([.bool]) (.vs 0 6 .nil) 12
(.br (.bvar 12)
(.call 0 ([.bool]) (.vs 6 6 .nil) 13
(.br (.bvar 13)
(.call 3 (kRg) (.vs 0 4 (.vs 6 4 .nil)) 14
(.call 4 (kKn) (.vs 4 2 (.vs 10 2 .nil)) 18
(.call 2 (kSc) (.vs 14 6 .nil) 20
(.leaf (.vs 20 6 .nil)))))
(.call 1 (kSc) .nil 14
(.leaf (.vs 14 6 .nil)))))
(.call 1 (kSc) .nil 13
(.leaf (.vs 13 6 .nil)))))
def sP_vtwow : Spec := ⟨fun k => match k with | 0 => sF_vmay | 1 => sF_vall | 2 => sF_vnard | 3 => sF_vwid0 | 4 => sF_kjoin | _ => fun _ => [], fun k => match k with | _ => fun _ => True⟩
set_option maxRecDepth 100000 in
theorem sR_vtwow : treeIs tys_VaB [sM_vmay 0, sM_vall 1, sM_vnard 2, sM_vwid0 3, sM_kjoin 4] [] [] [] 200 Try.f32 [.agg kSc, .agg kSc, .one (.fn 35), .one (.fn 34)] [.agg kSc] false [.int .u64, .int .u64, .int .i64, .int .i64, .int .u64, .int .u64, .int .u64, .int .u64, .int .i64, .int .i64, .int .u64, .int .u64] sT_vtwow := ⟨by kernel_rfl, by kernel_rfl, by kernel_rfl⟩
set_option maxRecDepth 100000 in
set_option maxHeartbeats 8000000 in
theorem sX_vtwow (a : Sc) (ha : Sc.ok a) (b : Sc) (hb : Sc.ok b)   (ρ : Env) (g : varsD ρ 0 [.int .u64, .int .u64, .int .i64, .int .i64, .int .u64, .int .u64, .int .u64, .int .u64, .int .i64, .int .i64, .int .u64, .int .u64] = [.z a.ul, .z a.uh, .z a.sl, .z a.sh, .z a.v, .z a.m, .z b.ul, .z b.uh, .z b.sl, .z b.sh, .z b.v, .z b.m]) : sT_vtwow.asks sP_vtwow (fun ρ e => e.D ρ = sF_vtwow [.z a.ul, .z a.uh, .z a.sl, .z a.sh, .z a.v, .z a.m, .z b.ul, .z b.uh, .z b.sl, .z b.sh, .z b.v, .z b.m]) ρ fun _ _ => False := by
  simp only [varsD, varD, List.cons.injEq, Dt.z.injEq, Dt.l.injEq, b2i_eq_iff, Nat.reduceAdd, and_true] at g
  simp only [sT_vtwow, sP_vtwow, kKn, kRg, kSc, sF_vmay, sF_vall, sF_vnard, sF_vwid0, sF_kjoin, sV_vmay, sV_vnard, sV_vwid0, sV_kjoin, sF_vtwow, sV_vtwow, Tr.asks, upd_same, okDs, okD, eqs, E.I, E.B, E.L, E.R, E.D, E.vs, dI, dB, dL, varD, varsD, List.getElem?_cons_zero, List.getElem?_cons_succ, List.cons_append, List.nil_append, Nat.zero_add, Nat.add_zero, Nat.reduceAdd, and_true, true_and, b2i_one, -eq_self, Kn.eta, Pi.eta, Pu.eta, Rg.eta, Sc.eta, Sc.eta_r, Sc.eta_k, Sc.eta_2, g]
  intro e; (try simp only [e, Kn.eta, Pi.eta, Pu.eta, Rg.eta, Sc.eta, Sc.eta_r, Sc.eta_k, Sc.eta_2, -eq_self]); clear e
  refine ⟨fun c0 => ?_, fun c0 => ?_⟩
  intro e; (try simp only [e, Kn.eta, Pi.eta, Pu.eta, Rg.eta, Sc.eta, Sc.eta_r, Sc.eta_k, Sc.eta_2, -eq_self]); clear e
  refine ⟨fun c1 => ?_, fun c1 => ?_⟩
  intro e; (try simp only [e, Kn.eta, Pi.eta, Pu.eta, Rg.eta, Sc.eta, Sc.eta_r, Sc.eta_k, Sc.eta_2, -eq_self]); clear e
  intro e; (try simp only [e, Kn.eta, Pi.eta, Pu.eta, Rg.eta, Sc.eta, Sc.eta_r, Sc.eta_k, Sc.eta_2, -eq_self]); clear e
  intro e; (try simp only [e, Kn.eta, Pi.eta, Pu.eta, Rg.eta, Sc.eta, Sc.eta_r, Sc.eta_k, Sc.eta_2, -eq_self]); clear e
  · (rw [show vwid a b = vnar (sc (bwid a.r b.r) (kjoin a.k b.k)) from if_pos ⟨c0, c1⟩]; try rfl)
  intro e; (try simp only [e, Kn.eta, Pi.eta, Pu.eta, Rg.eta, Sc.eta, Sc.eta_r, Sc.eta_k, Sc.eta_2, -eq_self]); clear e
  · (rw [show vwid a b = vall from if_neg (fun q => by simp_all)]; try rfl)
  intro e; (try simp only [e, Kn.eta, Pi.eta, Pu.eta, Rg.eta, Sc.eta, Sc.eta_r, Sc.eta_k, Sc.eta_2, -eq_self]); clear e
  · (rw [show vwid a b = vall from if_neg (fun q => by simp_all)]; try rfl)
theorem sK_vtwow {sp : Spec} {key : Nat} (hF : sp.F key = sF_vtwow) (hP : sp.pre key = fun _ => True := by rfl) : SmOk Try.prog sp (sM_vtwow key) :=
  fun_ok (s := sM_vtwow key) hF hP (by kernel_rfl) tysok_VaB (smc (sK_vmay rfl) (smc (sK_vall rfl) (smc (sK_vnard rfl) (smc (sK_vwid0 rfl) (smc (sK_kjoin rfl) sm0))))) Try.func32 fn0 sR_vtwow (.inl rfl) (fun x0 gx0 x1 gx1 x2 gx2 x3 gx3 x4 gx4 x5 gx5 x6 gx6 x7 gx7 x8 gx8 x9 gx9 x10 gx10 x11 gx11 hp ρ g => sX_vtwow ⟨x0, x1, x2, x3, x4, x5⟩ ⟨gx0, gx1, gx2, gx3, gx4, gx5⟩ ⟨x6, x7, x8, x9, x10, x11⟩ ⟨gx6, gx7, gx8, gx9, gx10, gx11⟩ ρ g)
def sM_vwid (key : Nat) : Sm := ⟨22, key, [.agg kSc, .agg kSc], [.agg kSc], false⟩
def sV_vwid (a : Sc) (b : Sc) : List Dt := [.z ((vwid a b).ul), .z ((vwid a b).uh), .z ((vwid a b).sl), .z ((vwid a b).sh), .z ((vwid a b).v), .z ((vwid a b).m)]
def sF_vwid : List Dt → List Dt
  | [.z x0, .z x1, .z x2, .z x3, .z x4, .z x5, .z x6, .z x7, .z x8, .z x9, .z x10, .z x11] => sV_vwid ⟨x0, x1, x2, x3, x4, x5⟩ ⟨x6, x7, x8, x9, x10, x11⟩
  | _ => []
def sT_vwid : Tr :=
(.call 0 (kSc) (.vs 0 12 .nil) 12
(.leaf (.vs 12 6 .nil)))
def sP_vwid : Spec := ⟨fun k => match k with | 0 => sF_vtwow | _ => fun _ => [], fun k => match k with | _ => fun _ => True⟩
set_option maxRecDepth 100000 in
theorem sR_vwid : treeIs tys_VaB [sM_vtwow 0] [] [] [] 200 Try.f22 [.agg kSc, .agg kSc] [.agg kSc] false [.int .u64, .int .u64, .int .i64, .int .i64, .int .u64, .int .u64, .int .u64, .int .u64, .int .i64, .int .i64, .int .u64, .int .u64] sT_vwid := ⟨by kernel_rfl, by kernel_rfl, by kernel_rfl⟩
set_option maxRecDepth 100000 in
set_option maxHeartbeats 8000000 in
theorem sX_vwid (a : Sc) (ha : Sc.ok a) (b : Sc) (hb : Sc.ok b) (ρ : Env) (g : varsD ρ 0 [.int .u64, .int .u64, .int .i64, .int .i64, .int .u64, .int .u64, .int .u64, .int .u64, .int .i64, .int .i64, .int .u64, .int .u64] = [.z a.ul, .z a.uh, .z a.sl, .z a.sh, .z a.v, .z a.m, .z b.ul, .z b.uh, .z b.sl, .z b.sh, .z b.v, .z b.m]) : sT_vwid.asks sP_vwid (fun ρ e => e.D ρ = sF_vwid [.z a.ul, .z a.uh, .z a.sl, .z a.sh, .z a.v, .z a.m, .z b.ul, .z b.uh, .z b.sl, .z b.sh, .z b.v, .z b.m]) ρ fun _ _ => False := by
  simp only [varsD, varD, List.cons.injEq, Dt.z.injEq, Dt.l.injEq, b2i_eq_iff, Nat.reduceAdd, and_true] at g
  simp only [sT_vwid, sP_vwid, kSc, sF_vtwow, sV_vtwow, sF_vwid, sV_vwid, Tr.asks, upd_same, okDs, okD, eqs, E.I, E.B, E.L, E.R, E.D, E.vs, dI, dB, dL, varD, varsD, List.getElem?_cons_zero, List.getElem?_cons_succ, List.cons_append, List.nil_append, Nat.zero_add, Nat.add_zero, Nat.reduceAdd, and_true, true_and, b2i_one, -eq_self, Kn.eta, Pi.eta, Pu.eta, Rg.eta, Sc.eta, Sc.eta_r, Sc.eta_k, Sc.eta_2, g]
  intro e; (try simp only [e, Kn.eta, Pi.eta, Pu.eta, Rg.eta, Sc.eta, Sc.eta_r, Sc.eta_k, Sc.eta_2, -eq_self]); clear e
  · rfl
theorem sK_vwid {sp : Spec} {key : Nat} (hF : sp.F key = sF_vwid) (hP : sp.pre key = fun _ => True := by rfl) : SmOk Try.prog sp (sM_vwid key) :=
  fun_ok (s := sM_vwid key) hF hP (by kernel_rfl) tysok_VaB (smc (sK_vtwow rfl) sm0) Try.func22 fn0 sR_vwid (.inl rfl) (fun x0 gx0 x1 gx1 x2 gx2 x3 gx3 x4 gx4 x5 gx5 x6 gx6 x7 gx7 x8 gx8 x9 gx9 x10 gx10 x11 gx11 hp ρ g => sX_vwid ⟨x0, x1, x2, x3, x4, x5⟩ ⟨gx0, gx1, gx2, gx3, gx4, gx5⟩ ⟨x6, x7, x8, x9, x10, x11⟩ ⟨gx6, gx7, gx8, gx9, gx10, gx11⟩ ρ g)
end Go.Proofs.Ytgfghplnankgnaa

