/- Contracts of Bytes and In, by the symbolic run. -/
import Derived.Test.YtgfghplnankgnaaVrA
import Derived.Test.YtgfghplnankgnaaVaB
import Derived.Test.YtgfghplnankgnaaProg
import Derived.Laws.Externs
set_option linter.unusedVariables false
set_option linter.unusedSimpArgs false
namespace Go.Proofs.Ytgfghplnankgnaa
open Go.RowKit Go.ChangeShapes Go.WideShapes

def z_Kn : List C := [.int .u64 (.lit 0), .int .u64 (.lit 0)]
theorem grd_Kn : Try.prog.eqGuardType Try.prog.depth 27 = false := by kernel_rfl
theorem cells27_Kn : Try.prog.cellsOf 27 = 2 := by kernel_rfl
theorem cells23_Kn : Try.prog.cellsOf 23 = 1 := by kernel_rfl
set_option maxRecDepth 100000 in
theorem kl_Kn (vs : List Value) (hv : kindsV vs z_Kn) : Try.prog.keyLits 6 27 vs = some (litsOf vs) := by
  obtain ⟨x0, _, rfl, g0, hv⟩ := kindsV_int hv
  obtain ⟨x1, _, rfl, g1, hv⟩ := kindsV_int hv
  obtain rfl := kindsV_nil hv
  simp [Program.keyLits, Try.underlying27, Try.underlying23, cells27_Kn, cells23_Kn, inK_wf, litsOf, g0, g1]
theorem fm_Kn (vs : List Value) (hv : kindsV vs z_Kn) : (Value.agg vs.toArray).formed Try.prog 27 = true := by
  obtain ⟨x0, _, rfl, g0, hv⟩ := kindsV_int hv
  obtain ⟨x1, _, rfl, g1, hv⟩ := kindsV_int hv
  obtain rfl := kindsV_nil hv
  kernel_rfl
theorem eq_Kn (vs us : List Value) (hv : kindsV vs z_Kn) (hu : kindsV us z_Kn) (w : World) : (Op.equal 27 (.agg vs.toArray) (.agg us.toArray)).run Try.prog w = .ok (eqVs vs us) w :=
  eq_of_keys (by kernel_rfl) fm_Kn 6 kl_Kn vs us hv hu w
def tys_VrB : List (Nat × TI) := [(2, ⟨false, 1, [.int .i64 (.lit 0)], [], none, some .i64, false, false, none, 8, false, none, false⟩),
 (3, ⟨false, 1, [.int .i64 (.lit 0)], [], none, some .i64, false, false, none, 8, false, none, false⟩),
 (23, ⟨false, 1, [.int .u64 (.lit 0)], [], none, some .u64, false, false, none, 8, false, none, false⟩),
 (25, ⟨true, 4, [.int .u64 (.lit 0), .int .u64 (.lit 0), .int .i64 (.lit 0), .int .i64 (.lit 0)], [(0, 23), (1, 23), (2, 2), (3, 2)], none, none, false, false, none, 32, false, none, false⟩),
 (27, ⟨true, 2, [.int .u64 (.lit 0), .int .u64 (.lit 0)], [(0, 23), (1, 23)], none, none, true, false, none, 16, false, none, false⟩),
 (29, ⟨true, 6, [.int .u64 (.lit 0), .int .u64 (.lit 0), .int .i64 (.lit 0), .int .i64 (.lit 0), .int .u64 (.lit 0), .int .u64 (.lit 0)], [(0, 25), (4, 27)], none, none, false, false, none, 48, false, none, false⟩)]
set_option maxRecDepth 100000 in
theorem tysck_VrB : (tys_VrB.all fun p => ckTI Try.prog p.1 p.2) = true := by kernel_rfl
theorem tyseq_VrB : (tys_VrB.all fun p => !p.2.eqok || ((Nat.beq p.1 27 && kindsC p.2.zero z_Kn))) = true := by kernel_rfl
theorem tyskn_VrB : (tys_VrB.all fun p => !p.2.keyok) = true := by kernel_rfl
theorem tysok_VrB : ∀ t i, (t, i) ∈ tys_VrB → TIok Try.prog t i := by
  intro t i h
  refine TIok_of (all_at (f := ckTI Try.prog) tysck_VrB h) (fun he => ?_) (fun he => ?_) (fun he => ?_)
  · have h1 := List.all_eq_true.1 tyseq_VrB (t, i) h
    simp only [he, Bool.not_true, Bool.false_or, Bool.or_eq_true, Bool.and_eq_true] at h1
    have hs := h1.2
    obtain rfl := Nat.eq_of_beq_eq_true h1.1
    exact fun vs us hv hu => eq_Kn vs us (kindsV_of hs hv) (kindsV_of hs hu)
  · have h1 := List.all_eq_true.1 tyseq_VrB (t, i) h
    simp only [he, Bool.not_true, Bool.false_or, Bool.or_eq_true, Bool.and_eq_true] at h1
    have hs := h1.2
    obtain rfl := Nat.eq_of_beq_eq_true h1.1
    exact grd_Kn
  · have h1 := List.all_eq_true.1 tyskn_VrB (t, i) h
    simp [he] at h1
def sM_kin (key : Nat) : Sm := ⟨56, key, [.agg kKn, .agg kKn], [.one .bool], false⟩
def sV_kin (a : Kn) (b : Kn) : List Dt := [.z (b2i (kin a b))]
def sF_kin : List Dt → List Dt
  | [.z x0, .z x1, .z x2, .z x3] => sV_kin ⟨x0, x1⟩ ⟨x2, x3⟩
  | _ => []
def sT_kin : Tr :=
(.call 0 ([.bool]) (.vs 0 2 .nil) 4
(.br (.bvar 4)
(.call 0 ([.bool]) (.vs 2 2 .nil) 5
(.br (.bvar 5)
(.br (.eq (.bin .or .u64 (.var 1) (.var 3)) (.var 3))
(.call 3 (kKn) (.cons (.var 0) (.cons (.var 3) .nil)) 6
(.leaf (.consb (.and (.eq (.var 6) (.var 2)) (.and (.eq (.var 7) (.var 3)) (.tt true))) .nil)))
(.leaf (.consb (.tt false) .nil)))
(.leaf (.consb (.tt false) .nil))))
(.leaf (.consb (.tt false) .nil))))
def sP_kin : Spec := ⟨fun k => match k with | 0 => sF_kmay | 1 => sF_kall | 2 => sF_kjoin | 3 => sF_kmask | _ => fun _ => [], fun k => match k with | _ => fun _ => True⟩
set_option maxRecDepth 100000 in
theorem sR_kin : treeIs tys_VrB [sM_kmay 0, sM_kall 1, sM_kjoin 2, sM_kmask 3] [] [] [] 200 Try.f56 [.agg kKn, .agg kKn] [.one .bool] false [.int .u64, .int .u64, .int .u64, .int .u64] sT_kin := ⟨by kernel_rfl, by kernel_rfl, by kernel_rfl⟩
set_option maxRecDepth 100000 in
set_option maxHeartbeats 8000000 in
theorem sX_kin (a : Kn) (ha : Kn.ok a) (b : Kn) (hb : Kn.ok b) (ρ : Env) (g : varsD ρ 0 [.int .u64, .int .u64, .int .u64, .int .u64] = [.z a.v, .z a.m, .z b.v, .z b.m]) : sT_kin.asks sP_kin (fun ρ e => e.D ρ = sF_kin [.z a.v, .z a.m, .z b.v, .z b.m]) ρ fun _ _ => False := by
  simp only [varsD, varD, List.cons.injEq, Dt.z.injEq, Dt.l.injEq, b2i_eq_iff, Nat.reduceAdd, and_true] at g
  simp only [sT_kin, sP_kin, kKn, sF_kmay, sF_kall, sF_kjoin, sF_kmask, sV_kmay, sV_kjoin, sV_kmask, sF_kin, sV_kin, Tr.asks, upd_same, okDs, okD, eqs, E.I, E.B, E.L, E.R, E.D, E.vs, dI, dB, dL, varD, varsD, List.getElem?_cons_zero, List.getElem?_cons_succ, List.cons_append, List.nil_append, Nat.zero_add, Nat.add_zero, Nat.reduceAdd, and_true, true_and, b2i_one, -eq_self, Kn.eta, Pi.eta, Pu.eta, Rg.eta, Sc.eta, Sc.eta_r, Sc.eta_k, Sc.eta_2, g]
  intro e; (try simp only [e, Kn.eta, Pi.eta, Pu.eta, Rg.eta, Sc.eta, Sc.eta_r, Sc.eta_k, Sc.eta_2, -eq_self]); clear e
  refine ⟨fun c0 => ?_, fun c0 => ?_⟩
  intro e; (try simp only [e, Kn.eta, Pi.eta, Pu.eta, Rg.eta, Sc.eta, Sc.eta_r, Sc.eta_k, Sc.eta_2, -eq_self]); clear e
  refine ⟨fun c1 => ?_, fun c1 => ?_⟩
  refine ⟨fun c2 => ?_, fun c2 => ?_⟩
  intro e; (try simp only [e, Kn.eta, Pi.eta, Pu.eta, Rg.eta, Sc.eta, Sc.eta_r, Sc.eta_k, Sc.eta_2, -eq_self]); clear e
  · (unfold kin; simp_all [kmask, opI]; try (intros; assumption))
  · (unfold kin; simp_all [kmask, opI]; try (intros; assumption))
  · (unfold kin; simp_all [kmask, opI]; try (intros; assumption))
  · (unfold kin; simp_all [kmask, opI]; try (intros; assumption))
theorem sK_kin {sp : Spec} {key : Nat} (hF : sp.F key = sF_kin) (hP : sp.pre key = fun _ => True := by rfl) : SmOk Try.prog sp (sM_kin key) :=
  fun_ok (s := sM_kin key) hF hP (by kernel_rfl) tysok_VrB (smc (sK_kmay rfl) (smc (sK_kall rfl) (smc (sK_kjoin rfl) (smc (sK_kmask rfl) sm0)))) Try.func56 fn0 sR_kin (.inl rfl) (fun x0 gx0 x1 gx1 x2 gx2 x3 gx3 hp ρ g => sX_kin ⟨x0, x1⟩ ⟨gx0, gx1⟩ ⟨x2, x3⟩ ⟨gx2, gx3⟩ ρ g)
def sM_vin (key : Nat) : Sm := ⟨39, key, [.agg kSc, .agg kSc], [.one .bool], false⟩
def sV_vin (a : Sc) (b : Sc) : List Dt := [.z (b2i ((bin a.r b.r && kin a.k b.k)))]
def sF_vin : List Dt → List Dt
  | [.z x0, .z x1, .z x2, .z x3, .z x4, .z x5, .z x6, .z x7, .z x8, .z x9, .z x10, .z x11] => sV_vin ⟨x0, x1, x2, x3, x4, x5⟩ ⟨x6, x7, x8, x9, x10, x11⟩
  | _ => []
def sT_vin : Tr :=
(.call 0 ([.bool]) (.vs 0 4 (.vs 6 4 .nil)) 12
(.br (.bvar 12)
(.call 1 ([.bool]) (.vs 4 2 (.vs 10 2 .nil)) 13
(.leaf (.consb (.bvar 13) .nil)))
(.leaf (.consb (.tt false) .nil))))
def sP_vin : Spec := ⟨fun k => match k with | 0 => sF_in | 1 => sF_kin | _ => fun _ => [], fun k => match k with | _ => fun _ => True⟩
set_option maxRecDepth 100000 in
theorem sR_vin : treeIs tys_VrB [sM_in 0, sM_kin 1] [] [] [] 200 Try.f39 [.agg kSc, .agg kSc] [.one .bool] false [.int .u64, .int .u64, .int .i64, .int .i64, .int .u64, .int .u64, .int .u64, .int .u64, .int .i64, .int .i64, .int .u64, .int .u64] sT_vin := ⟨by kernel_rfl, by kernel_rfl, by kernel_rfl⟩
set_option maxRecDepth 100000 in
set_option maxHeartbeats 8000000 in
theorem sX_vin (a : Sc) (ha : Sc.ok a) (b : Sc) (hb : Sc.ok b) (ρ : Env) (g : varsD ρ 0 [.int .u64, .int .u64, .int .i64, .int .i64, .int .u64, .int .u64, .int .u64, .int .u64, .int .i64, .int .i64, .int .u64, .int .u64] = [.z a.ul, .z a.uh, .z a.sl, .z a.sh, .z a.v, .z a.m, .z b.ul, .z b.uh, .z b.sl, .z b.sh, .z b.v, .z b.m]) : sT_vin.asks sP_vin (fun ρ e => e.D ρ = sF_vin [.z a.ul, .z a.uh, .z a.sl, .z a.sh, .z a.v, .z a.m, .z b.ul, .z b.uh, .z b.sl, .z b.sh, .z b.v, .z b.m]) ρ fun _ _ => False := by
  simp only [varsD, varD, List.cons.injEq, Dt.z.injEq, Dt.l.injEq, b2i_eq_iff, Nat.reduceAdd, and_true] at g
  simp only [sT_vin, sP_vin, sF_in, sF_kin, sV_in, sV_kin, sF_vin, sV_vin, Tr.asks, upd_same, okDs, okD, eqs, E.I, E.B, E.L, E.R, E.D, E.vs, dI, dB, dL, varD, varsD, List.getElem?_cons_zero, List.getElem?_cons_succ, List.cons_append, List.nil_append, Nat.zero_add, Nat.add_zero, Nat.reduceAdd, and_true, true_and, b2i_one, -eq_self, Kn.eta, Pi.eta, Pu.eta, Rg.eta, Sc.eta, Sc.eta_r, Sc.eta_k, Sc.eta_2, g]
  intro e; (try simp only [e, Kn.eta, Pi.eta, Pu.eta, Rg.eta, Sc.eta, Sc.eta_r, Sc.eta_k, Sc.eta_2, -eq_self]); clear e
  refine ⟨fun c0 => ?_, fun c0 => ?_⟩
  intro e; (try simp only [e, Kn.eta, Pi.eta, Pu.eta, Rg.eta, Sc.eta, Sc.eta_r, Sc.eta_k, Sc.eta_2, -eq_self]); clear e
  · (simp_all)
  · (simp_all)
theorem sK_vin {sp : Spec} {key : Nat} (hF : sp.F key = sF_vin) (hP : sp.pre key = fun _ => True := by rfl) : SmOk Try.prog sp (sM_vin key) :=
  fun_ok (s := sM_vin key) hF hP (by kernel_rfl) tysok_VrB (smc (sK_in rfl) (smc (sK_kin rfl) sm0)) Try.func39 fn0 sR_vin (.inl rfl) (fun x0 gx0 x1 gx1 x2 gx2 x3 gx3 x4 gx4 x5 gx5 x6 gx6 x7 gx7 x8 gx8 x9 gx9 x10 gx10 x11 gx11 hp ρ g => sX_vin ⟨x0, x1, x2, x3, x4, x5⟩ ⟨gx0, gx1, gx2, gx3, gx4, gx5⟩ ⟨x6, x7, x8, x9, x10, x11⟩ ⟨gx6, gx7, gx8, gx9, gx10, gx11⟩ ρ g)
def sM_vbel (key : Nat) : Sm := ⟨40, key, [.one (.int .i64)], [.agg kSc], false⟩
def sV_vbel (n : Int) : List Dt := [.z ((vbel (opI .shr .u64 18446744073709551615 (opI .sub .i64 64 n))).ul), .z ((vbel (opI .shr .u64 18446744073709551615 (opI .sub .i64 64 n))).uh), .z ((vbel (opI .shr .u64 18446744073709551615 (opI .sub .i64 64 n))).sl), .z ((vbel (opI .shr .u64 18446744073709551615 (opI .sub .i64 64 n))).sh), .z ((vbel (opI .shr .u64 18446744073709551615 (opI .sub .i64 64 n))).v), .z ((vbel (opI .shr .u64 18446744073709551615 (opI .sub .i64 64 n))).m)]
def sF_vbel : List Dt → List Dt
  | [.z x0] => sV_vbel x0
  | _ => []
def sT_vbel : Tr :=
(.br (.lt (.bin .sub .i64 (.lit 64) (.var 0)) (.lit 0))
.panic
(.call 0 (kRg) .nil 1
(.call 1 (kSc) (.cons (.var 1) (.cons (.bin .shr .u64 (.lit 18446744073709551615) (.bin .sub .i64 (.lit 64) (.var 0))) (.vs 3 2 (.cons (.lit 0) (.cons (.bin .shr .u64 (.lit 18446744073709551615) (.bin .sub .i64 (.lit 64) (.var 0))) .nil))))) 5
(.leaf (.vs 5 6 .nil)))))
def sP_vbel : Spec := ⟨fun k => match k with | 0 => sF_all | 1 => sF_vnard | _ => fun _ => [], fun k => match k with | _ => fun _ => True⟩
set_option maxRecDepth 100000 in
theorem sR_vbel : treeIs tys_VrB [sM_all 0, sM_vnard 1] [] [] [] 200 Try.f40 [.one (.int .i64)] [.agg kSc] false [.int .i64] sT_vbel := ⟨by kernel_rfl, by kernel_rfl, by kernel_rfl⟩
def sQ_vbel : List Dt → Prop
  | [.z x0] => let f (n : Int) : Prop := -64 ≤ n ∧ n ≤ 64; f x0
  | _ => False
set_option maxRecDepth 100000 in
set_option maxHeartbeats 8000000 in
theorem sX_vbel (n : Int) (hn : inK .i64 n = true) (hp : sQ_vbel [.z n]) (ρ : Env) (g : varsD ρ 0 [.int .i64] = [.z n]) : sT_vbel.asks sP_vbel (fun ρ e => e.D ρ = sF_vbel [.z n]) ρ fun _ _ => False := by
  simp only [sQ_vbel, b2i_one, Sc.eta_r, Sc.eta_k, Sc.eta_2] at hp
  simp only [varsD, varD, List.cons.injEq, Dt.z.injEq, Dt.l.injEq, b2i_eq_iff, Nat.reduceAdd, and_true] at g
  simp only [sT_vbel, sP_vbel, kRg, kSc, sF_all, sF_vnard, sV_vnard, sF_vbel, sV_vbel, Tr.asks, upd_same, okDs, okD, eqs, E.I, E.B, E.L, E.R, E.D, E.vs, dI, dB, dL, varD, varsD, List.getElem?_cons_zero, List.getElem?_cons_succ, List.cons_append, List.nil_append, Nat.zero_add, Nat.add_zero, Nat.reduceAdd, and_true, true_and, b2i_one, -eq_self, Kn.eta, Pi.eta, Pu.eta, Rg.eta, Sc.eta, Sc.eta_r, Sc.eta_k, Sc.eta_2, g]
  refine ⟨fun c0 => ?_, fun c0 => ?_⟩
  · (have h : IntKind.i64.wrap (64 - n) < 0 := of_decide_eq_true c0; have gn := inK_i64 hn; rw [w_i64] at h; omega)
  intro e; (try simp only [e, Kn.eta, Pi.eta, Pu.eta, Rg.eta, Sc.eta, Sc.eta_r, Sc.eta_k, Sc.eta_2, -eq_self]); clear e
  intro e; (try simp only [e, Kn.eta, Pi.eta, Pu.eta, Rg.eta, Sc.eta, Sc.eta_r, Sc.eta_k, Sc.eta_2, -eq_self]); clear e
  · rfl
theorem sK_vbel {sp : Spec} {key : Nat} (hF : sp.F key = sF_vbel) (hP : sp.pre key = sQ_vbel) : SmOk Try.prog sp (sM_vbel key) :=
  fun_ok (s := sM_vbel key) hF hP (by kernel_rfl) tysok_VrB (smc (sK_all rfl) (smc (sK_vnard rfl) sm0)) Try.func40 fn0 sR_vbel (.inl rfl) (fun x0 gx0 hp ρ g => sX_vbel x0 gx0 hp ρ g)
def sM_vby (key : Nat) : Sm := ⟨27, key, [.one (.int .i64)], [.agg kSc], false⟩
def sV_vby (q : Int) : List Dt := [.z ((vbyt q).ul), .z ((vbyt q).uh), .z ((vbyt q).sl), .z ((vbyt q).sh), .z ((vbyt q).v), .z ((vbyt q).m)]
def sF_vby : List Dt → List Dt
  | [.z x0] => sV_vby x0
  | _ => []
def sT_vby : Tr :=
(.call 0 (kSc) (.cons (.bin .mul .i64 (.lit 8) (.mn (.mx (.var 0) (.lit 1)) (.lit 8))) .nil) 1
(.leaf (.vs 1 6 .nil)))
def sP_vby : Spec := ⟨fun k => match k with | 0 => sF_vbel | _ => fun _ => [], fun k => match k with | 0 => sQ_vbel | _ => fun _ => True⟩
set_option maxRecDepth 100000 in
theorem sR_vby : treeIs tys_VrB [sM_vbel 0] [] [] [] 200 Try.f27 [.one (.int .i64)] [.agg kSc] false [.int .i64] sT_vby := ⟨by kernel_rfl, by kernel_rfl, by kernel_rfl⟩
set_option maxRecDepth 100000 in
set_option maxHeartbeats 8000000 in
theorem sX_vby (q : Int) (hq : inK .i64 q = true) (ρ : Env) (g : varsD ρ 0 [.int .i64] = [.z q]) : sT_vby.asks sP_vby (fun ρ e => e.D ρ = sF_vby [.z q]) ρ fun _ _ => False := by
  simp only [varsD, varD, List.cons.injEq, Dt.z.injEq, Dt.l.injEq, b2i_eq_iff, Nat.reduceAdd, and_true] at g
  simp only [sT_vby, sP_vby, kSc, sF_vbel, sV_vbel, sF_vby, sV_vby, sQ_vbel, Tr.asks, upd_same, okDs, okD, eqs, E.I, E.B, E.L, E.R, E.D, E.vs, dI, dB, dL, varD, varsD, List.getElem?_cons_zero, List.getElem?_cons_succ, List.cons_append, List.nil_append, Nat.zero_add, Nat.add_zero, Nat.reduceAdd, and_true, true_and, b2i_one, -eq_self, Kn.eta, Pi.eta, Pu.eta, Rg.eta, Sc.eta, Sc.eta_r, Sc.eta_k, Sc.eta_2, g]
  refine ⟨?_, ?_⟩
  · (show -64 ≤ IntKind.i64.wrap (8 * min (max q 1) 8) ∧ IntKind.i64.wrap (8 * min (max q 1) 8) ≤ 64; rw [w_i64]; omega)
  intro e; (try simp only [e, Kn.eta, Pi.eta, Pu.eta, Rg.eta, Sc.eta, Sc.eta_r, Sc.eta_k, Sc.eta_2, -eq_self]); clear e
  · (refine agg_Sc ?_; unfold vbyt; rcases clamp_cases q with h | h | h | h | h | h | h | h <;> rw [h] <;> rfl)
theorem sK_vby {sp : Spec} {key : Nat} (hF : sp.F key = sF_vby) (hP : sp.pre key = fun _ => True := by rfl) : SmOk Try.prog sp (sM_vby key) :=
  fun_ok (s := sM_vby key) hF hP (by kernel_rfl) tysok_VrB (smc (sK_vbel rfl rfl) sm0) Try.func27 fn0 sR_vby (.inl rfl) (fun x0 gx0 hp ρ g => sX_vby x0 gx0 ρ g)
end Go.Proofs.Ytgfghplnankgnaa

