/- Contract of Do of package known, by the symbolic run. -/
import Derived.Test.YtcfnglbcgkappaaGreatVaA
import Derived.Test.YtcfnglbcgkappaaGreatProg
import Derived.Laws.Externs
set_option linter.unusedVariables false
set_option linter.unusedSimpArgs false
namespace Go.Proofs.YtcfnglbcgkappaaGreat
open Go.RowKit Go.ChangeShapes Go.WideShapes

def tys_KaD : List (Nat × TI) := [(22, ⟨false, 1, [.int .i8 (.lit 0)], [], none, some .i8, false, false, none, 1, false⟩),
 (23, ⟨false, 1, [.int .u64 (.lit 0)], [], none, some .u64, false, false, none, 8, false⟩),
 (27, ⟨true, 2, [.int .u64 (.lit 0), .int .u64 (.lit 0)], [(0, 23), (1, 23)], none, none, false, false, none, 16, false⟩),
 (64, ⟨false, 1, [.nilf], [], none, none, false, false, none, 8, true⟩),
 (104, ⟨true, 13, [.nilf, .nilf, .nilf, .nilf, .nilf, .nilf, .nilf, .nilf, .nilf, .nilf, .nilf, .nilf, .nilf], [], some (13, 64), none, false, false, none, 104, false⟩)]
set_option maxRecDepth 100000 in
theorem tysck_KaD : (tys_KaD.all fun p => ckTI Tryz.prog p.1 p.2) = true := by kernel_rfl
theorem tysne_KaD : (tys_KaD.all fun p => !p.2.eqok) = true := by kernel_rfl
theorem tysok_KaD : ∀ t i, (t, i) ∈ tys_KaD → TIok Tryz.prog t i := by
  intro t i h
  have h1 := all_at (f := fun _ i => !i.eqok) tysne_KaD h
  exact TIok_of (all_at (f := ckTI Tryz.prog) tysck_KaD h) (fun he => by simp [he] at h1) (fun he => by simp [he] at h1)
def sM_kcarr (key : Nat) : Sm := ⟨148, key, [.one (.int .u64), .one (.int .u64), .agg kKn, .agg kKn], [.agg kKn], false⟩
def sV_kcarr (v : Int) (x : Int) (a : Kn) (b : Kn) : List Dt := [.z ((kmask v (bits .or .u64 (bits .or .u64 (bits .xor .u64 v x) a.m) b.m)).v), .z ((kmask v (bits .or .u64 (bits .or .u64 (bits .xor .u64 v x) a.m) b.m)).m)]
def sF_kcarr : List Dt → List Dt
  | [.z x0, .z x1, .z x2, .z x3, .z x4, .z x5] => sV_kcarr x0 x1 ⟨x2, x3⟩ ⟨x4, x5⟩
  | _ => []
def sT_kcarr : Tr :=
(.call 0 (kKn) (.cons (.var 0) (.cons (.bin .or .u64 (.bin .or .u64 (.bin .xor .u64 (.var 0) (.var 1)) (.var 3)) (.var 5)) .nil)) 6
(.leaf (.vs 6 2 .nil)))
def sP_kcarr : Spec := ⟨fun k => match k with | 0 => sF_kmask | _ => fun _ => [], fun k => match k with | _ => fun _ => True⟩
set_option maxRecDepth 100000 in
theorem sR_kcarr : treeIs tys_KaD [sM_kmask 0] [] [] 200 Tryz.f148 [.one (.int .u64), .one (.int .u64), .agg kKn, .agg kKn] [.agg kKn] false [.int .u64, .int .u64, .int .u64, .int .u64, .int .u64, .int .u64] sT_kcarr := ⟨by kernel_rfl, by kernel_rfl, by kernel_rfl⟩
set_option maxRecDepth 100000 in
set_option maxHeartbeats 8000000 in
theorem sX_kcarr (v : Int) (hv : inK .u64 v = true) (x : Int) (hx : inK .u64 x = true) (a : Kn) (ha : Kn.ok a) (b : Kn) (hb : Kn.ok b) (ρ : Env) (g : varsD ρ 0 [.int .u64, .int .u64, .int .u64, .int .u64, .int .u64, .int .u64] = [.z v, .z x, .z a.v, .z a.m, .z b.v, .z b.m]) : sT_kcarr.asks sP_kcarr (fun ρ e => e.D ρ = sF_kcarr [.z v, .z x, .z a.v, .z a.m, .z b.v, .z b.m]) ρ fun _ _ => False := by
  simp only [varsD, varD, List.cons.injEq, Dt.z.injEq, Dt.l.injEq, b2i_eq_iff, Nat.reduceAdd, and_true] at g
  simp only [sT_kcarr, sP_kcarr, kKn, sF_kmask, sV_kmask, sF_kcarr, sV_kcarr, Tr.asks, upd_same, okDs, okD, eqs, E.I, E.B, E.L, E.R, E.D, E.vs, dI, dB, dL, varD, varsD, List.getElem?_cons_zero, List.getElem?_cons_succ, List.cons_append, List.nil_append, Nat.zero_add, Nat.add_zero, Nat.reduceAdd, and_true, true_and, b2i_one, -eq_self, Kn.eta, Pi.eta, Pu.eta, Rg.eta, Sc.eta, Sc.eta_r, Sc.eta_k, Sc.eta_2, g]
  intro e; (try simp only [e, Kn.eta, Pi.eta, Pu.eta, Rg.eta, Sc.eta, Sc.eta_r, Sc.eta_k, Sc.eta_2, -eq_self]); clear e
  rfl
theorem sK_kcarr {sp : Spec} {key : Nat} (hF : sp.F key = sF_kcarr) (hP : sp.pre key = fun _ => True := by rfl) : SmOk Tryz.prog sp (sM_kcarr key) :=
  fun_ok (s := sM_kcarr key) hF hP (by kernel_rfl) tysok_KaD (smc (sK_kmask rfl) sm0) Tryz.func148 sR_kcarr (.inl rfl) (fun x0 gx0 x1 gx1 x2 gx2 x3 gx3 x4 gx4 x5 gx5 hp ρ g => sX_kcarr x0 gx0 x1 gx1 ⟨x2, x3⟩ ⟨gx2, gx3⟩ ⟨x4, x5⟩ ⟨gx4, gx5⟩ ρ g)
def sM_kadd (key : Nat) : Sm := ⟨111, key, [.agg kKn, .agg kKn], [.agg kKn], false⟩
def sV_kadd (a : Kn) (b : Kn) : List Dt := [.z ((kadd a b).v), .z ((kadd a b).m)]
def sF_kadd : List Dt → List Dt
  | [.z x0, .z x1, .z x2, .z x3] => sV_kadd ⟨x0, x1⟩ ⟨x2, x3⟩
  | _ => []
def sT_kadd : Tr :=
(.call 0 (kKn) (.cons (.bin .add .u64 (.var 0) (.var 2)) (.cons (.bin .add .u64 (.bin .add .u64 (.var 1) (.var 3)) (.bin .add .u64 (.var 0) (.var 2))) (.vs 0 4 .nil))) 4
(.leaf (.vs 4 2 .nil)))
def sP_kadd : Spec := ⟨fun k => match k with | 0 => sF_kcarr | _ => fun _ => [], fun k => match k with | _ => fun _ => True⟩
set_option maxRecDepth 100000 in
theorem sR_kadd : treeIs tys_KaD [sM_kcarr 0] [] [] 200 Tryz.f111 [.agg kKn, .agg kKn] [.agg kKn] false [.int .u64, .int .u64, .int .u64, .int .u64] sT_kadd := ⟨by kernel_rfl, by kernel_rfl, by kernel_rfl⟩
set_option maxRecDepth 100000 in
set_option maxHeartbeats 8000000 in
theorem sX_kadd (a : Kn) (ha : Kn.ok a) (b : Kn) (hb : Kn.ok b) (ρ : Env) (g : varsD ρ 0 [.int .u64, .int .u64, .int .u64, .int .u64] = [.z a.v, .z a.m, .z b.v, .z b.m]) : sT_kadd.asks sP_kadd (fun ρ e => e.D ρ = sF_kadd [.z a.v, .z a.m, .z b.v, .z b.m]) ρ fun _ _ => False := by
  simp only [varsD, varD, List.cons.injEq, Dt.z.injEq, Dt.l.injEq, b2i_eq_iff, Nat.reduceAdd, and_true] at g
  simp only [sT_kadd, sP_kadd, kKn, sF_kcarr, sV_kcarr, sF_kadd, sV_kadd, Tr.asks, upd_same, okDs, okD, eqs, E.I, E.B, E.L, E.R, E.D, E.vs, dI, dB, dL, varD, varsD, List.getElem?_cons_zero, List.getElem?_cons_succ, List.cons_append, List.nil_append, Nat.zero_add, Nat.add_zero, Nat.reduceAdd, and_true, true_and, b2i_one, -eq_self, Kn.eta, Pi.eta, Pu.eta, Rg.eta, Sc.eta, Sc.eta_r, Sc.eta_k, Sc.eta_2, g]
  intro e; (try simp only [e, Kn.eta, Pi.eta, Pu.eta, Rg.eta, Sc.eta, Sc.eta_r, Sc.eta_k, Sc.eta_2, -eq_self]); clear e
  (unfold kadd; rfl)
theorem sK_kadd {sp : Spec} {key : Nat} (hF : sp.F key = sF_kadd) (hP : sp.pre key = fun _ => True := by rfl) : SmOk Tryz.prog sp (sM_kadd key) :=
  fun_ok (s := sM_kadd key) hF hP (by kernel_rfl) tysok_KaD (smc (sK_kcarr rfl) sm0) Tryz.func111 sR_kadd (.inl rfl) (fun x0 gx0 x1 gx1 x2 gx2 x3 gx3 hp ρ g => sX_kadd ⟨x0, x1⟩ ⟨gx0, gx1⟩ ⟨x2, x3⟩ ⟨gx2, gx3⟩ ρ g)
def sM_ksub (key : Nat) : Sm := ⟨112, key, [.agg kKn, .agg kKn], [.agg kKn], false⟩
def sV_ksub (a : Kn) (b : Kn) : List Dt := [.z ((ksub a b).v), .z ((ksub a b).m)]
def sF_ksub : List Dt → List Dt
  | [.z x0, .z x1, .z x2, .z x3] => sV_ksub ⟨x0, x1⟩ ⟨x2, x3⟩
  | _ => []
def sT_ksub : Tr :=
(.call 0 (kKn) (.cons (.bin .sub .u64 (.var 0) (.var 2)) (.cons (.bin .or .u64 (.bin .or .u64 (.bin .xor .u64 (.bin .add .u64 (.bin .sub .u64 (.var 0) (.var 2)) (.var 1)) (.bin .sub .u64 (.bin .sub .u64 (.var 0) (.var 2)) (.var 3))) (.var 1)) (.var 3)) .nil)) 4
(.leaf (.vs 4 2 .nil)))
def sP_ksub : Spec := ⟨fun k => match k with | 0 => sF_kmask | _ => fun _ => [], fun k => match k with | _ => fun _ => True⟩
set_option maxRecDepth 100000 in
theorem sR_ksub : treeIs tys_KaD [sM_kmask 0] [] [] 200 Tryz.f112 [.agg kKn, .agg kKn] [.agg kKn] false [.int .u64, .int .u64, .int .u64, .int .u64] sT_ksub := ⟨by kernel_rfl, by kernel_rfl, by kernel_rfl⟩
set_option maxRecDepth 100000 in
set_option maxHeartbeats 8000000 in
theorem sX_ksub (a : Kn) (ha : Kn.ok a) (b : Kn) (hb : Kn.ok b) (ρ : Env) (g : varsD ρ 0 [.int .u64, .int .u64, .int .u64, .int .u64] = [.z a.v, .z a.m, .z b.v, .z b.m]) : sT_ksub.asks sP_ksub (fun ρ e => e.D ρ = sF_ksub [.z a.v, .z a.m, .z b.v, .z b.m]) ρ fun _ _ => False := by
  simp only [varsD, varD, List.cons.injEq, Dt.z.injEq, Dt.l.injEq, b2i_eq_iff, Nat.reduceAdd, and_true] at g
  simp only [sT_ksub, sP_ksub, kKn, sF_kmask, sV_kmask, sF_ksub, sV_ksub, Tr.asks, upd_same, okDs, okD, eqs, E.I, E.B, E.L, E.R, E.D, E.vs, dI, dB, dL, varD, varsD, List.getElem?_cons_zero, List.getElem?_cons_succ, List.cons_append, List.nil_append, Nat.zero_add, Nat.add_zero, Nat.reduceAdd, and_true, true_and, b2i_one, -eq_self, Kn.eta, Pi.eta, Pu.eta, Rg.eta, Sc.eta, Sc.eta_r, Sc.eta_k, Sc.eta_2, g]
  intro e; (try simp only [e, Kn.eta, Pi.eta, Pu.eta, Rg.eta, Sc.eta, Sc.eta_r, Sc.eta_k, Sc.eta_2, -eq_self]); clear e
  (unfold ksub; rfl)
theorem sK_ksub {sp : Spec} {key : Nat} (hF : sp.F key = sF_ksub) (hP : sp.pre key = fun _ => True := by rfl) : SmOk Tryz.prog sp (sM_ksub key) :=
  fun_ok (s := sM_ksub key) hF hP (by kernel_rfl) tysok_KaD (smc (sK_kmask rfl) sm0) Tryz.func112 sR_ksub (.inl rfl) (fun x0 gx0 x1 gx1 x2 gx2 x3 gx3 hp ρ g => sX_ksub ⟨x0, x1⟩ ⟨gx0, gx1⟩ ⟨x2, x3⟩ ⟨gx2, gx3⟩ ρ g)
def sM_kneg (key : Nat) : Sm := ⟨115, key, [.agg kKn, .agg kKn], [.agg kKn], false⟩
def sV_kneg (a : Kn) (b : Kn) : List Dt := [.z ((ksub (kone 0) a).v), .z ((ksub (kone 0) a).m)]
def sF_kneg : List Dt → List Dt
  | [.z x0, .z x1, .z x2, .z x3] => sV_kneg ⟨x0, x1⟩ ⟨x2, x3⟩
  | _ => []
def sT_kneg : Tr :=
(.call 0 (kKn) (.cons (.lit 0) .nil) 4
(.call 1 (kKn) (.vs 4 2 (.vs 0 2 .nil)) 6
(.leaf (.vs 6 2 .nil))))
def sP_kneg : Spec := ⟨fun k => match k with | 0 => sF_kone | 1 => sF_ksub | _ => fun _ => [], fun k => match k with | _ => fun _ => True⟩
set_option maxRecDepth 100000 in
theorem sR_kneg : treeIs tys_KaD [sM_kone 0, sM_ksub 1] [] [] 200 Tryz.f115 [.agg kKn, .agg kKn] [.agg kKn] false [.int .u64, .int .u64, .int .u64, .int .u64] sT_kneg := ⟨by kernel_rfl, by kernel_rfl, by kernel_rfl⟩
set_option maxRecDepth 100000 in
set_option maxHeartbeats 8000000 in
theorem sX_kneg (a : Kn) (ha : Kn.ok a) (b : Kn) (hb : Kn.ok b) (ρ : Env) (g : varsD ρ 0 [.int .u64, .int .u64, .int .u64, .int .u64] = [.z a.v, .z a.m, .z b.v, .z b.m]) : sT_kneg.asks sP_kneg (fun ρ e => e.D ρ = sF_kneg [.z a.v, .z a.m, .z b.v, .z b.m]) ρ fun _ _ => False := by
  simp only [varsD, varD, List.cons.injEq, Dt.z.injEq, Dt.l.injEq, b2i_eq_iff, Nat.reduceAdd, and_true] at g
  simp only [sT_kneg, sP_kneg, kKn, sF_kone, sF_ksub, sV_kone, sV_ksub, sF_kneg, sV_kneg, Tr.asks, upd_same, okDs, okD, eqs, E.I, E.B, E.L, E.R, E.D, E.vs, dI, dB, dL, varD, varsD, List.getElem?_cons_zero, List.getElem?_cons_succ, List.cons_append, List.nil_append, Nat.zero_add, Nat.add_zero, Nat.reduceAdd, and_true, true_and, b2i_one, -eq_self, Kn.eta, Pi.eta, Pu.eta, Rg.eta, Sc.eta, Sc.eta_r, Sc.eta_k, Sc.eta_2, g]
  intro e; (try simp only [e, Kn.eta, Pi.eta, Pu.eta, Rg.eta, Sc.eta, Sc.eta_r, Sc.eta_k, Sc.eta_2, -eq_self]); clear e
  intro e; (try simp only [e, Kn.eta, Pi.eta, Pu.eta, Rg.eta, Sc.eta, Sc.eta_r, Sc.eta_k, Sc.eta_2, -eq_self]); clear e
  rfl
theorem sK_kneg {sp : Spec} {key : Nat} (hF : sp.F key = sF_kneg) (hP : sp.pre key = fun _ => True := by rfl) : SmOk Tryz.prog sp (sM_kneg key) :=
  fun_ok (s := sM_kneg key) hF hP (by kernel_rfl) tysok_KaD (smc (sK_kone rfl) (smc (sK_ksub rfl) sm0)) Tryz.func115 sR_kneg (.inl rfl) (fun x0 gx0 x1 gx1 x2 gx2 x3 gx3 hp ρ g => sX_kneg ⟨x0, x1⟩ ⟨gx0, gx1⟩ ⟨x2, x3⟩ ⟨gx2, gx3⟩ ρ g)
def sM_kand (key : Nat) : Sm := ⟨114, key, [.agg kKn, .agg kKn], [.agg kKn], false⟩
def sV_kand (a : Kn) (b : Kn) : List Dt := [.z ((kand a b).v), .z ((kand a b).m)]
def sF_kand : List Dt → List Dt
  | [.z x0, .z x1, .z x2, .z x3] => sV_kand ⟨x0, x1⟩ ⟨x2, x3⟩
  | _ => []
def sT_kand : Tr :=
(.leaf (.cons (.bin .and .u64 (.var 0) (.var 2)) (.cons (.bin .andNot .u64 (.bin .and .u64 (.bin .or .u64 (.var 0) (.var 1)) (.bin .or .u64 (.var 2) (.var 3))) (.bin .and .u64 (.var 0) (.var 2))) .nil)))
def sP_kand : Spec := ⟨fun k => match k with | _ => fun _ => [], fun k => match k with | _ => fun _ => True⟩
set_option maxRecDepth 100000 in
theorem sR_kand : treeIs tys_KaD [] [] [] 200 Tryz.f114 [.agg kKn, .agg kKn] [.agg kKn] false [.int .u64, .int .u64, .int .u64, .int .u64] sT_kand := ⟨by kernel_rfl, by kernel_rfl, by kernel_rfl⟩
set_option maxRecDepth 100000 in
set_option maxHeartbeats 8000000 in
theorem sX_kand (a : Kn) (ha : Kn.ok a) (b : Kn) (hb : Kn.ok b) (ρ : Env) (g : varsD ρ 0 [.int .u64, .int .u64, .int .u64, .int .u64] = [.z a.v, .z a.m, .z b.v, .z b.m]) : sT_kand.asks sP_kand (fun ρ e => e.D ρ = sF_kand [.z a.v, .z a.m, .z b.v, .z b.m]) ρ fun _ _ => False := by
  simp only [varsD, varD, List.cons.injEq, Dt.z.injEq, Dt.l.injEq, b2i_eq_iff, Nat.reduceAdd, and_true] at g
  simp only [sT_kand, sP_kand, sF_kand, sV_kand, Tr.asks, upd_same, okDs, okD, eqs, E.I, E.B, E.L, E.R, E.D, E.vs, dI, dB, dL, varD, varsD, List.getElem?_cons_zero, List.getElem?_cons_succ, List.cons_append, List.nil_append, Nat.zero_add, Nat.add_zero, Nat.reduceAdd, and_true, true_and, b2i_one, -eq_self, Kn.eta, Sc.eta_r, Sc.eta_k, Sc.eta_2, g]
  rfl
theorem sK_kand {sp : Spec} {key : Nat} (hF : sp.F key = sF_kand) (hP : sp.pre key = fun _ => True := by rfl) : SmOk Tryz.prog sp (sM_kand key) :=
  fun_ok (s := sM_kand key) hF hP (by kernel_rfl) tysok_KaD (sm0) Tryz.func114 sR_kand (.inl rfl) (fun x0 gx0 x1 gx1 x2 gx2 x3 gx3 hp ρ g => sX_kand ⟨x0, x1⟩ ⟨gx0, gx1⟩ ⟨x2, x3⟩ ⟨gx2, gx3⟩ ρ g)
def sM_kor (key : Nat) : Sm := ⟨113, key, [.agg kKn, .agg kKn], [.agg kKn], false⟩
def sV_kor (a : Kn) (b : Kn) : List Dt := [.z ((kor a b).v), .z ((kor a b).m)]
def sF_kor : List Dt → List Dt
  | [.z x0, .z x1, .z x2, .z x3] => sV_kor ⟨x0, x1⟩ ⟨x2, x3⟩
  | _ => []
def sT_kor : Tr :=
(.leaf (.cons (.bin .or .u64 (.var 0) (.var 2)) (.cons (.bin .andNot .u64 (.bin .or .u64 (.var 1) (.var 3)) (.bin .or .u64 (.var 0) (.var 2))) .nil)))
def sP_kor : Spec := ⟨fun k => match k with | _ => fun _ => [], fun k => match k with | _ => fun _ => True⟩
set_option maxRecDepth 100000 in
theorem sR_kor : treeIs tys_KaD [] [] [] 200 Tryz.f113 [.agg kKn, .agg kKn] [.agg kKn] false [.int .u64, .int .u64, .int .u64, .int .u64] sT_kor := ⟨by kernel_rfl, by kernel_rfl, by kernel_rfl⟩
set_option maxRecDepth 100000 in
set_option maxHeartbeats 8000000 in
theorem sX_kor (a : Kn) (ha : Kn.ok a) (b : Kn) (hb : Kn.ok b) (ρ : Env) (g : varsD ρ 0 [.int .u64, .int .u64, .int .u64, .int .u64] = [.z a.v, .z a.m, .z b.v, .z b.m]) : sT_kor.asks sP_kor (fun ρ e => e.D ρ = sF_kor [.z a.v, .z a.m, .z b.v, .z b.m]) ρ fun _ _ => False := by
  simp only [varsD, varD, List.cons.injEq, Dt.z.injEq, Dt.l.injEq, b2i_eq_iff, Nat.reduceAdd, and_true] at g
  simp only [sT_kor, sP_kor, sF_kor, sV_kor, Tr.asks, upd_same, okDs, okD, eqs, E.I, E.B, E.L, E.R, E.D, E.vs, dI, dB, dL, varD, varsD, List.getElem?_cons_zero, List.getElem?_cons_succ, List.cons_append, List.nil_append, Nat.zero_add, Nat.add_zero, Nat.reduceAdd, and_true, true_and, b2i_one, -eq_self, Kn.eta, Sc.eta_r, Sc.eta_k, Sc.eta_2, g]
  rfl
theorem sK_kor {sp : Spec} {key : Nat} (hF : sp.F key = sF_kor) (hP : sp.pre key = fun _ => True := by rfl) : SmOk Tryz.prog sp (sM_kor key) :=
  fun_ok (s := sM_kor key) hF hP (by kernel_rfl) tysok_KaD (sm0) Tryz.func113 sR_kor (.inl rfl) (fun x0 gx0 x1 gx1 x2 gx2 x3 gx3 hp ρ g => sX_kor ⟨x0, x1⟩ ⟨gx0, gx1⟩ ⟨x2, x3⟩ ⟨gx2, gx3⟩ ρ g)
def sM_kxor (key : Nat) : Sm := ⟨116, key, [.agg kKn, .agg kKn], [.agg kKn], false⟩
def sV_kxor (a : Kn) (b : Kn) : List Dt := [.z ((kxor a b).v), .z ((kxor a b).m)]
def sF_kxor : List Dt → List Dt
  | [.z x0, .z x1, .z x2, .z x3] => sV_kxor ⟨x0, x1⟩ ⟨x2, x3⟩
  | _ => []
def sT_kxor : Tr :=
(.call 0 (kKn) (.cons (.bin .xor .u64 (.var 0) (.var 2)) (.cons (.bin .or .u64 (.var 1) (.var 3)) .nil)) 4
(.leaf (.vs 4 2 .nil)))
def sP_kxor : Spec := ⟨fun k => match k with | 0 => sF_kmask | _ => fun _ => [], fun k => match k with | _ => fun _ => True⟩
set_option maxRecDepth 100000 in
theorem sR_kxor : treeIs tys_KaD [sM_kmask 0] [] [] 200 Tryz.f116 [.agg kKn, .agg kKn] [.agg kKn] false [.int .u64, .int .u64, .int .u64, .int .u64] sT_kxor := ⟨by kernel_rfl, by kernel_rfl, by kernel_rfl⟩
set_option maxRecDepth 100000 in
set_option maxHeartbeats 8000000 in
theorem sX_kxor (a : Kn) (ha : Kn.ok a) (b : Kn) (hb : Kn.ok b) (ρ : Env) (g : varsD ρ 0 [.int .u64, .int .u64, .int .u64, .int .u64] = [.z a.v, .z a.m, .z b.v, .z b.m]) : sT_kxor.asks sP_kxor (fun ρ e => e.D ρ = sF_kxor [.z a.v, .z a.m, .z b.v, .z b.m]) ρ fun _ _ => False := by
  simp only [varsD, varD, List.cons.injEq, Dt.z.injEq, Dt.l.injEq, b2i_eq_iff, Nat.reduceAdd, and_true] at g
  simp only [sT_kxor, sP_kxor, kKn, sF_kmask, sV_kmask, sF_kxor, sV_kxor, Tr.asks, upd_same, okDs, okD, eqs, E.I, E.B, E.L, E.R, E.D, E.vs, dI, dB, dL, varD, varsD, List.getElem?_cons_zero, List.getElem?_cons_succ, List.cons_append, List.nil_append, Nat.zero_add, Nat.add_zero, Nat.reduceAdd, and_true, true_and, b2i_one, -eq_self, Kn.eta, Pi.eta, Pu.eta, Rg.eta, Sc.eta, Sc.eta_r, Sc.eta_k, Sc.eta_2, g]
  intro e; (try simp only [e, Kn.eta, Pi.eta, Pu.eta, Rg.eta, Sc.eta, Sc.eta_r, Sc.eta_k, Sc.eta_2, -eq_self]); clear e
  rfl
theorem sK_kxor {sp : Spec} {key : Nat} (hF : sp.F key = sF_kxor) (hP : sp.pre key = fun _ => True := by rfl) : SmOk Tryz.prog sp (sM_kxor key) :=
  fun_ok (s := sM_kxor key) hF hP (by kernel_rfl) tysok_KaD (smc (sK_kmask rfl) sm0) Tryz.func116 sR_kxor (.inl rfl) (fun x0 gx0 x1 gx1 x2 gx2 x3 gx3 hp ρ g => sX_kxor ⟨x0, x1⟩ ⟨gx0, gx1⟩ ⟨x2, x3⟩ ⟨gx2, gx3⟩ ρ g)
def sM_ksec (key : Nat) : Sm := ⟨117, key, [.agg kKn, .agg kKn], [.agg kKn], false⟩
def sV_ksec (a : Kn) (b : Kn) : List Dt := [.z b.v, .z b.m]
def sF_ksec : List Dt → List Dt
  | [.z x0, .z x1, .z x2, .z x3] => sV_ksec ⟨x0, x1⟩ ⟨x2, x3⟩
  | _ => []
def sT_ksec : Tr :=
(.leaf (.vs 2 2 .nil))
def sP_ksec : Spec := ⟨fun k => match k with | _ => fun _ => [], fun k => match k with | _ => fun _ => True⟩
set_option maxRecDepth 100000 in
theorem sR_ksec : treeIs tys_KaD [] [] [] 200 Tryz.f117 [.agg kKn, .agg kKn] [.agg kKn] false [.int .u64, .int .u64, .int .u64, .int .u64] sT_ksec := ⟨by kernel_rfl, by kernel_rfl, by kernel_rfl⟩
set_option maxRecDepth 100000 in
set_option maxHeartbeats 8000000 in
theorem sX_ksec (a : Kn) (ha : Kn.ok a) (b : Kn) (hb : Kn.ok b) (ρ : Env) (g : varsD ρ 0 [.int .u64, .int .u64, .int .u64, .int .u64] = [.z a.v, .z a.m, .z b.v, .z b.m]) : sT_ksec.asks sP_ksec (fun ρ e => e.D ρ = sF_ksec [.z a.v, .z a.m, .z b.v, .z b.m]) ρ fun _ _ => False := by
  simp only [varsD, varD, List.cons.injEq, Dt.z.injEq, Dt.l.injEq, b2i_eq_iff, Nat.reduceAdd, and_true] at g
  simp only [sT_ksec, sP_ksec, sF_ksec, sV_ksec, Tr.asks, upd_same, okDs, okD, eqs, E.I, E.B, E.L, E.R, E.D, E.vs, dI, dB, dL, varD, varsD, List.getElem?_cons_zero, List.getElem?_cons_succ, List.cons_append, List.nil_append, Nat.zero_add, Nat.add_zero, Nat.reduceAdd, and_true, true_and, b2i_one, -eq_self, Kn.eta, Sc.eta_r, Sc.eta_k, Sc.eta_2, g]
  rfl
theorem sK_ksec {sp : Spec} {key : Nat} (hF : sp.F key = sF_ksec) (hP : sp.pre key = fun _ => True := by rfl) : SmOk Tryz.prog sp (sM_ksec key) :=
  fun_ok (s := sM_ksec key) hF hP (by kernel_rfl) tysok_KaD (sm0) Tryz.func117 sR_ksec (.inl rfl) (fun x0 gx0 x1 gx1 x2 gx2 x3 gx3 hp ρ g => sX_ksec ⟨x0, x1⟩ ⟨gx0, gx1⟩ ⟨x2, x3⟩ ⟨gx2, gx3⟩ ρ g)
def sM_kdo (key : Nat) : Sm := ⟨69, key, [.one (.int .i8), .one (.int .i8), .agg kKn, .agg kKn], [.agg kKn], false⟩
def sV_kdo (op : Int) (l : Int) (a : Kn) (b : Kn) : List Dt := [.z ((kdo op l a b).v), .z ((kdo op l a b).m)]
def sF_kdo : List Dt → List Dt
  | [.z x0, .z x1, .z x2, .z x3, .z x4, .z x5] => sV_kdo x0 x1 ⟨x2, x3⟩ ⟨x4, x5⟩
  | _ => []
def sT_kdo : Tr :=
(.call 0 ([.bool]) (.vs 2 2 .nil) 6
(.br (.bvar 6)
(.call 0 ([.bool]) (.vs 4 2 .nil) 7
(.br (.bvar 7)
(.br (.lt (.var 0) (.lit 0))
(.call 1 (kKn) .nil 8
(.leaf (.vs 8 2 .nil)))
(.br (.lt (.lit 12) (.var 0))
(.call 1 (kKn) .nil 8
(.leaf (.vs 8 2 .nil)))
(.br (.eq (.var 1) (.lit 32))
(.call 2 (kKn) (.vs 2 2 (.cons (.var 1) .nil)) 8
(.call 2 (kKn) (.vs 4 2 (.cons (.var 1) .nil)) 10
(.br (.eq (.bin .or .u64 (.var 9) (.var 11)) (.lit 0))
(.call 3 ([.int .u64] ++ [.int .i64]) (.vs 0 2 (.cons (.var 8) (.cons (.var 10) .nil))) 12
(.call 4 (kKn) (.cons (.var 12) .nil) 14
(.leaf (.vs 14 2 .nil))))
(.call 1 (kKn) .nil 12
(.br (.eq (.var 0) (.lit 6))
(.br (.eq (.bin .and .u64 (.var 11) (.bin .sub .u64 (.conv .u64 (.var 1)) (.lit 1))) (.lit 0))
(.call 3 ([.int .u64] ++ [.int .i64]) (.vs 0 2 (.cons (.var 8) (.cons (.bin .and .u64 (.var 10) (.bin .sub .u64 (.conv .u64 (.var 1)) (.lit 1))) .nil))) 14
(.call 3 ([.int .u64] ++ [.int .i64]) (.vs 0 2 (.cons (.var 9) (.cons (.bin .and .u64 (.var 10) (.bin .sub .u64 (.conv .u64 (.var 1)) (.lit 1))) .nil))) 16
(.call 5 (kKn) (.cons (.var 14) (.cons (.var 16) .nil)) 18
(.call 2 (kKn) (.vs 18 2 (.cons (.var 1) .nil)) 20
(.leaf (.vs 20 2 .nil))))))
(.call 2 (kKn) (.vs 12 2 (.cons (.var 1) .nil)) 14
(.leaf (.vs 14 2 .nil))))
(.br (.eq (.var 0) (.lit 7))
(.br (.eq (.bin .and .u64 (.var 11) (.bin .sub .u64 (.conv .u64 (.var 1)) (.lit 1))) (.lit 0))
(.call 3 ([.int .u64] ++ [.int .i64]) (.vs 0 2 (.cons (.var 8) (.cons (.bin .and .u64 (.var 10) (.bin .sub .u64 (.conv .u64 (.var 1)) (.lit 1))) .nil))) 14
(.call 3 ([.int .u64] ++ [.int .i64]) (.vs 0 2 (.cons (.var 9) (.cons (.bin .and .u64 (.var 10) (.bin .sub .u64 (.conv .u64 (.var 1)) (.lit 1))) .nil))) 16
(.call 5 (kKn) (.cons (.var 14) (.cons (.var 16) .nil)) 18
(.call 2 (kKn) (.vs 18 2 (.cons (.var 1) .nil)) 20
(.leaf (.vs 20 2 .nil))))))
(.call 2 (kKn) (.vs 12 2 (.cons (.var 1) .nil)) 14
(.leaf (.vs 14 2 .nil))))
(.br (.eq (.var 0) (.lit 12))
(.br (.eq (.bin .and .u64 (.var 11) (.bin .sub .u64 (.conv .u64 (.var 1)) (.lit 1))) (.lit 0))
(.call 3 ([.int .u64] ++ [.int .i64]) (.vs 0 2 (.cons (.var 8) (.cons (.bin .and .u64 (.var 10) (.bin .sub .u64 (.conv .u64 (.var 1)) (.lit 1))) .nil))) 14
(.call 3 ([.int .u64] ++ [.int .i64]) (.vs 0 2 (.cons (.var 9) (.cons (.bin .and .u64 (.var 10) (.bin .sub .u64 (.conv .u64 (.var 1)) (.lit 1))) .nil))) 16
(.call 5 (kKn) (.cons (.var 14) (.cons (.var 16) .nil)) 18
(.call 2 (kKn) (.vs 18 2 (.cons (.var 1) .nil)) 20
(.leaf (.vs 20 2 .nil))))))
(.call 2 (kKn) (.vs 12 2 (.cons (.var 1) .nil)) 14
(.leaf (.vs 14 2 .nil))))
(.br (.eq (.var 0) (.lit 0))
(.call 6 (kKn) (.vs 8 4 .nil) 14
(.call 2 (kKn) (.vs 14 2 (.cons (.var 1) .nil)) 16
(.leaf (.vs 16 2 .nil))))
(.br (.eq (.var 0) (.lit 1))
(.call 7 (kKn) (.vs 8 4 .nil) 14
(.call 2 (kKn) (.vs 14 2 (.cons (.var 1) .nil)) 16
(.leaf (.vs 16 2 .nil))))
(.br (.eq (.var 0) (.lit 2))
(.call 2 (kKn) (.vs 12 2 (.cons (.var 1) .nil)) 14
(.leaf (.vs 14 2 .nil)))
(.br (.eq (.var 0) (.lit 3))
(.call 2 (kKn) (.vs 12 2 (.cons (.var 1) .nil)) 14
(.leaf (.vs 14 2 .nil)))
(.br (.eq (.var 0) (.lit 4))
(.call 8 (kKn) (.vs 8 4 .nil) 14
(.call 2 (kKn) (.vs 14 2 (.cons (.var 1) .nil)) 16
(.leaf (.vs 16 2 .nil))))
(.br (.eq (.var 0) (.lit 5))
(.call 9 (kKn) (.vs 8 4 .nil) 14
(.call 2 (kKn) (.vs 14 2 (.cons (.var 1) .nil)) 16
(.leaf (.vs 16 2 .nil))))
(.br (.eq (.var 0) (.lit 8))
(.call 10 (kKn) (.vs 8 4 .nil) 14
(.call 2 (kKn) (.vs 14 2 (.cons (.var 1) .nil)) 16
(.leaf (.vs 16 2 .nil))))
(.br (.eq (.var 0) (.lit 9))
(.call 2 (kKn) (.vs 12 2 (.cons (.var 1) .nil)) 14
(.leaf (.vs 14 2 .nil)))
(.br (.eq (.var 0) (.lit 10))
(.call 11 (kKn) (.vs 8 4 .nil) 14
(.call 2 (kKn) (.vs 14 2 (.cons (.var 1) .nil)) 16
(.leaf (.vs 16 2 .nil))))
(.br (.eq (.var 0) (.lit 11))
(.call 12 (kKn) (.vs 8 4 .nil) 14
(.call 2 (kKn) (.vs 14 2 (.cons (.var 1) .nil)) 16
(.leaf (.vs 16 2 .nil))))
.panic)))))))))))))))))
(.br (.eq (.var 1) (.lit 64))
(.call 2 (kKn) (.vs 2 2 (.cons (.var 1) .nil)) 8
(.call 2 (kKn) (.vs 4 2 (.cons (.var 1) .nil)) 10
(.br (.eq (.bin .or .u64 (.var 9) (.var 11)) (.lit 0))
(.call 3 ([.int .u64] ++ [.int .i64]) (.vs 0 2 (.cons (.var 8) (.cons (.var 10) .nil))) 12
(.call 4 (kKn) (.cons (.var 12) .nil) 14
(.leaf (.vs 14 2 .nil))))
(.call 1 (kKn) .nil 12
(.br (.eq (.var 0) (.lit 6))
(.br (.eq (.bin .and .u64 (.var 11) (.bin .sub .u64 (.conv .u64 (.var 1)) (.lit 1))) (.lit 0))
(.call 3 ([.int .u64] ++ [.int .i64]) (.vs 0 2 (.cons (.var 8) (.cons (.bin .and .u64 (.var 10) (.bin .sub .u64 (.conv .u64 (.var 1)) (.lit 1))) .nil))) 14
(.call 3 ([.int .u64] ++ [.int .i64]) (.vs 0 2 (.cons (.var 9) (.cons (.bin .and .u64 (.var 10) (.bin .sub .u64 (.conv .u64 (.var 1)) (.lit 1))) .nil))) 16
(.call 5 (kKn) (.cons (.var 14) (.cons (.var 16) .nil)) 18
(.call 2 (kKn) (.vs 18 2 (.cons (.var 1) .nil)) 20
(.leaf (.vs 20 2 .nil))))))
(.call 2 (kKn) (.vs 12 2 (.cons (.var 1) .nil)) 14
(.leaf (.vs 14 2 .nil))))
(.br (.eq (.var 0) (.lit 7))
(.br (.eq (.bin .and .u64 (.var 11) (.bin .sub .u64 (.conv .u64 (.var 1)) (.lit 1))) (.lit 0))
(.call 3 ([.int .u64] ++ [.int .i64]) (.vs 0 2 (.cons (.var 8) (.cons (.bin .and .u64 (.var 10) (.bin .sub .u64 (.conv .u64 (.var 1)) (.lit 1))) .nil))) 14
(.call 3 ([.int .u64] ++ [.int .i64]) (.vs 0 2 (.cons (.var 9) (.cons (.bin .and .u64 (.var 10) (.bin .sub .u64 (.conv .u64 (.var 1)) (.lit 1))) .nil))) 16
(.call 5 (kKn) (.cons (.var 14) (.cons (.var 16) .nil)) 18
(.call 2 (kKn) (.vs 18 2 (.cons (.var 1) .nil)) 20
(.leaf (.vs 20 2 .nil))))))
(.call 2 (kKn) (.vs 12 2 (.cons (.var 1) .nil)) 14
(.leaf (.vs 14 2 .nil))))
(.br (.eq (.var 0) (.lit 12))
(.br (.eq (.bin .and .u64 (.var 11) (.bin .sub .u64 (.conv .u64 (.var 1)) (.lit 1))) (.lit 0))
(.call 3 ([.int .u64] ++ [.int .i64]) (.vs 0 2 (.cons (.var 8) (.cons (.bin .and .u64 (.var 10) (.bin .sub .u64 (.conv .u64 (.var 1)) (.lit 1))) .nil))) 14
(.call 3 ([.int .u64] ++ [.int .i64]) (.vs 0 2 (.cons (.var 9) (.cons (.bin .and .u64 (.var 10) (.bin .sub .u64 (.conv .u64 (.var 1)) (.lit 1))) .nil))) 16
(.call 5 (kKn) (.cons (.var 14) (.cons (.var 16) .nil)) 18
(.call 2 (kKn) (.vs 18 2 (.cons (.var 1) .nil)) 20
(.leaf (.vs 20 2 .nil))))))
(.call 2 (kKn) (.vs 12 2 (.cons (.var 1) .nil)) 14
(.leaf (.vs 14 2 .nil))))
(.br (.eq (.var 0) (.lit 0))
(.call 6 (kKn) (.vs 8 4 .nil) 14
(.call 2 (kKn) (.vs 14 2 (.cons (.var 1) .nil)) 16
(.leaf (.vs 16 2 .nil))))
(.br (.eq (.var 0) (.lit 1))
(.call 7 (kKn) (.vs 8 4 .nil) 14
(.call 2 (kKn) (.vs 14 2 (.cons (.var 1) .nil)) 16
(.leaf (.vs 16 2 .nil))))
(.br (.eq (.var 0) (.lit 2))
(.call 2 (kKn) (.vs 12 2 (.cons (.var 1) .nil)) 14
(.leaf (.vs 14 2 .nil)))
(.br (.eq (.var 0) (.lit 3))
(.call 2 (kKn) (.vs 12 2 (.cons (.var 1) .nil)) 14
(.leaf (.vs 14 2 .nil)))
(.br (.eq (.var 0) (.lit 4))
(.call 8 (kKn) (.vs 8 4 .nil) 14
(.call 2 (kKn) (.vs 14 2 (.cons (.var 1) .nil)) 16
(.leaf (.vs 16 2 .nil))))
(.br (.eq (.var 0) (.lit 5))
(.call 9 (kKn) (.vs 8 4 .nil) 14
(.call 2 (kKn) (.vs 14 2 (.cons (.var 1) .nil)) 16
(.leaf (.vs 16 2 .nil))))
(.br (.eq (.var 0) (.lit 8))
(.call 10 (kKn) (.vs 8 4 .nil) 14
(.call 2 (kKn) (.vs 14 2 (.cons (.var 1) .nil)) 16
(.leaf (.vs 16 2 .nil))))
(.br (.eq (.var 0) (.lit 9))
(.call 2 (kKn) (.vs 12 2 (.cons (.var 1) .nil)) 14
(.leaf (.vs 14 2 .nil)))
(.br (.eq (.var 0) (.lit 10))
(.call 11 (kKn) (.vs 8 4 .nil) 14
(.call 2 (kKn) (.vs 14 2 (.cons (.var 1) .nil)) 16
(.leaf (.vs 16 2 .nil))))
(.br (.eq (.var 0) (.lit 11))
(.call 12 (kKn) (.vs 8 4 .nil) 14
(.call 2 (kKn) (.vs 14 2 (.cons (.var 1) .nil)) 16
(.leaf (.vs 16 2 .nil))))
.panic)))))))))))))))))
(.call 1 (kKn) .nil 8
(.leaf (.vs 8 2 .nil)))))))
(.call 1 (kKn) .nil 8
(.leaf (.vs 8 2 .nil)))))
(.call 1 (kKn) .nil 7
(.leaf (.vs 7 2 .nil)))))
def sP_kdo : Spec := ⟨fun k => match k with | 0 => sF_kmay | 1 => sF_kall | 2 => sF_kcut | 3 => sF_bits | 4 => sF_kone | 5 => sF_kmask | 6 => sF_kadd | 7 => sF_ksub | 8 => sF_kor | 9 => sF_kand | 10 => sF_kneg | 11 => sF_kxor | 12 => sF_ksec | _ => fun _ => [], fun k => match k with | _ => fun _ => True⟩
set_option maxRecDepth 100000 in
theorem sR_kdo : treeIs tys_KaD [sM_kmay 0, sM_kall 1, sM_kcut 2, sM_bits 3, sM_kone 4, sM_kmask 5, sM_kadd 6, sM_ksub 7, sM_kor 8, sM_kand 9, sM_kneg 10, sM_kxor 11, sM_ksec 12] [] [] 200 Tryz.f69 [.one (.int .i8), .one (.int .i8), .agg kKn, .agg kKn] [.agg kKn] false [.int .i8, .int .i8, .int .u64, .int .u64, .int .u64, .int .u64] sT_kdo := ⟨by kernel_rfl, by kernel_rfl, by kernel_rfl⟩
set_option maxRecDepth 100000 in
set_option maxHeartbeats 8000000 in
theorem sX_kdo (op : Int) (hop : inK .i8 op = true) (l : Int) (hl : inK .i8 l = true) (a : Kn) (ha : Kn.ok a) (b : Kn) (hb : Kn.ok b) (ρ : Env) (g : varsD ρ 0 [.int .i8, .int .i8, .int .u64, .int .u64, .int .u64, .int .u64] = [.z op, .z l, .z a.v, .z a.m, .z b.v, .z b.m]) : sT_kdo.asks sP_kdo (fun ρ e => e.D ρ = sF_kdo [.z op, .z l, .z a.v, .z a.m, .z b.v, .z b.m]) ρ fun _ _ => False := by
  simp only [varsD, varD, List.cons.injEq, Dt.z.injEq, Dt.l.injEq, b2i_eq_iff, Nat.reduceAdd, and_true] at g
  simp only [sT_kdo, sP_kdo, kKn, sF_kmay, sF_kall, sF_kcut, sF_bits, sF_kone, sF_kmask, sF_kadd, sF_ksub, sF_kor, sF_kand, sF_kneg, sF_kxor, sF_ksec, sV_kmay, sV_kcut, sV_bits, sV_kone, sV_kmask, sV_kadd, sV_ksub, sV_kor, sV_kand, sV_kneg, sV_kxor, sV_ksec, sF_kdo, sV_kdo, Tr.asks, upd_same, okDs, okD, eqs, E.I, E.B, E.L, E.R, E.D, E.vs, dI, dB, dL, varD, varsD, List.getElem?_cons_zero, List.getElem?_cons_succ, List.cons_append, List.nil_append, Nat.zero_add, Nat.add_zero, Nat.reduceAdd, and_true, true_and, b2i_one, -eq_self, Kn.eta, Pi.eta, Pu.eta, Rg.eta, Sc.eta, Sc.eta_r, Sc.eta_k, Sc.eta_2, g]
  intro e; (try simp only [e, Kn.eta, Pi.eta, Pu.eta, Rg.eta, Sc.eta, Sc.eta_r, Sc.eta_k, Sc.eta_2, -eq_self]); clear e
  refine ⟨fun c0 => ?_, fun c0 => ?_⟩
  intro e; (try simp only [e, Kn.eta, Pi.eta, Pu.eta, Rg.eta, Sc.eta, Sc.eta_r, Sc.eta_k, Sc.eta_2, -eq_self]); clear e
  refine ⟨fun c1 => ?_, fun c1 => ?_⟩
  refine ⟨fun c2 => ?_, fun c2 => ?_⟩
  intro e; (try simp only [e, Kn.eta, Pi.eta, Pu.eta, Rg.eta, Sc.eta, Sc.eta_r, Sc.eta_k, Sc.eta_2, -eq_self]); clear e
  exact agg_Kn (kd_bad (kd_lo c2))
  refine ⟨fun c3 => ?_, fun c3 => ?_⟩
  intro e; (try simp only [e, Kn.eta, Pi.eta, Pu.eta, Rg.eta, Sc.eta, Sc.eta_r, Sc.eta_k, Sc.eta_2, -eq_self]); clear e
  exact agg_Kn (kd_bad (kd_hi c3))
  refine ⟨fun c4 => ?_, fun c4 => ?_⟩
  intro e; (try simp only [e, Kn.eta, Pi.eta, Pu.eta, Rg.eta, Sc.eta, Sc.eta_r, Sc.eta_k, Sc.eta_2, -eq_self]); clear e
  intro e; (try simp only [e, Kn.eta, Pi.eta, Pu.eta, Rg.eta, Sc.eta, Sc.eta_r, Sc.eta_k, Sc.eta_2, -eq_self]); clear e
  refine ⟨fun c5 => ?_, fun c5 => ?_⟩
  intro e; (try simp only [e, Kn.eta, Pi.eta, Pu.eta, Rg.eta, Sc.eta, Sc.eta_r, Sc.eta_k, Sc.eta_2, -eq_self]); clear e
  intro e; (try simp only [e, Kn.eta, Pi.eta, Pu.eta, Rg.eta, Sc.eta, Sc.eta_r, Sc.eta_k, Sc.eta_2, -eq_self]); clear e
  (obtain rfl := eqz c4; have hg := kd_ok c0 c1 c2 c3 (l := 32) rfl; exact agg_Kn (kd_one hg c5))
  intro e; (try simp only [e, Kn.eta, Pi.eta, Pu.eta, Rg.eta, Sc.eta, Sc.eta_r, Sc.eta_k, Sc.eta_2, -eq_self]); clear e
  refine ⟨fun c6 => ?_, fun c6 => ?_⟩
  refine ⟨fun c7 => ?_, fun c7 => ?_⟩
  intro e; (try simp only [e, Kn.eta, Pi.eta, Pu.eta, Rg.eta, Sc.eta, Sc.eta_r, Sc.eta_k, Sc.eta_2, -eq_self]); clear e
  intro e; (try simp only [e, Kn.eta, Pi.eta, Pu.eta, Rg.eta, Sc.eta, Sc.eta_r, Sc.eta_k, Sc.eta_2, -eq_self]); clear e
  intro e; (try simp only [e, Kn.eta, Pi.eta, Pu.eta, Rg.eta, Sc.eta, Sc.eta_r, Sc.eta_k, Sc.eta_2, -eq_self]); clear e
  intro e; (try simp only [e, Kn.eta, Pi.eta, Pu.eta, Rg.eta, Sc.eta, Sc.eta_r, Sc.eta_k, Sc.eta_2, -eq_self]); clear e
  (obtain rfl := eqz c4; have hg := kd_ok c0 c1 c2 c3 (l := 32) rfl; obtain rfl := eqz c6; exact agg_Kn (kd_op hg c5 (kop_y (by decide) c7)))
  intro e; (try simp only [e, Kn.eta, Pi.eta, Pu.eta, Rg.eta, Sc.eta, Sc.eta_r, Sc.eta_k, Sc.eta_2, -eq_self]); clear e
  (obtain rfl := eqz c4; have hg := kd_ok c0 c1 c2 c3 (l := 32) rfl; obtain rfl := eqz c6; exact agg_Kn (kd_op hg c5 (kop_n (by decide) c7)))
  refine ⟨fun c8 => ?_, fun c8 => ?_⟩
  refine ⟨fun c9 => ?_, fun c9 => ?_⟩
  intro e; (try simp only [e, Kn.eta, Pi.eta, Pu.eta, Rg.eta, Sc.eta, Sc.eta_r, Sc.eta_k, Sc.eta_2, -eq_self]); clear e
  intro e; (try simp only [e, Kn.eta, Pi.eta, Pu.eta, Rg.eta, Sc.eta, Sc.eta_r, Sc.eta_k, Sc.eta_2, -eq_self]); clear e
  intro e; (try simp only [e, Kn.eta, Pi.eta, Pu.eta, Rg.eta, Sc.eta, Sc.eta_r, Sc.eta_k, Sc.eta_2, -eq_self]); clear e
  intro e; (try simp only [e, Kn.eta, Pi.eta, Pu.eta, Rg.eta, Sc.eta, Sc.eta_r, Sc.eta_k, Sc.eta_2, -eq_self]); clear e
  (obtain rfl := eqz c4; have hg := kd_ok c0 c1 c2 c3 (l := 32) rfl; obtain rfl := eqz c8; exact agg_Kn (kd_op hg c5 (kop_y (by decide) c9)))
  intro e; (try simp only [e, Kn.eta, Pi.eta, Pu.eta, Rg.eta, Sc.eta, Sc.eta_r, Sc.eta_k, Sc.eta_2, -eq_self]); clear e
  (obtain rfl := eqz c4; have hg := kd_ok c0 c1 c2 c3 (l := 32) rfl; obtain rfl := eqz c8; exact agg_Kn (kd_op hg c5 (kop_n (by decide) c9)))
  refine ⟨fun c10 => ?_, fun c10 => ?_⟩
  refine ⟨fun c11 => ?_, fun c11 => ?_⟩
  intro e; (try simp only [e, Kn.eta, Pi.eta, Pu.eta, Rg.eta, Sc.eta, Sc.eta_r, Sc.eta_k, Sc.eta_2, -eq_self]); clear e
  intro e; (try simp only [e, Kn.eta, Pi.eta, Pu.eta, Rg.eta, Sc.eta, Sc.eta_r, Sc.eta_k, Sc.eta_2, -eq_self]); clear e
  intro e; (try simp only [e, Kn.eta, Pi.eta, Pu.eta, Rg.eta, Sc.eta, Sc.eta_r, Sc.eta_k, Sc.eta_2, -eq_self]); clear e
  intro e; (try simp only [e, Kn.eta, Pi.eta, Pu.eta, Rg.eta, Sc.eta, Sc.eta_r, Sc.eta_k, Sc.eta_2, -eq_self]); clear e
  (obtain rfl := eqz c4; have hg := kd_ok c0 c1 c2 c3 (l := 32) rfl; obtain rfl := eqz c10; exact agg_Kn (kd_op hg c5 (kop_y (by decide) c11)))
  intro e; (try simp only [e, Kn.eta, Pi.eta, Pu.eta, Rg.eta, Sc.eta, Sc.eta_r, Sc.eta_k, Sc.eta_2, -eq_self]); clear e
  (obtain rfl := eqz c4; have hg := kd_ok c0 c1 c2 c3 (l := 32) rfl; obtain rfl := eqz c10; exact agg_Kn (kd_op hg c5 (kop_n (by decide) c11)))
  refine ⟨fun c12 => ?_, fun c12 => ?_⟩
  intro e; (try simp only [e, Kn.eta, Pi.eta, Pu.eta, Rg.eta, Sc.eta, Sc.eta_r, Sc.eta_k, Sc.eta_2, -eq_self]); clear e
  intro e; (try simp only [e, Kn.eta, Pi.eta, Pu.eta, Rg.eta, Sc.eta, Sc.eta_r, Sc.eta_k, Sc.eta_2, -eq_self]); clear e
  (obtain rfl := eqz c4; have hg := kd_ok c0 c1 c2 c3 (l := 32) rfl; obtain rfl := eqz c12; exact agg_Kn (kd_op hg c5 rfl))
  refine ⟨fun c13 => ?_, fun c13 => ?_⟩
  intro e; (try simp only [e, Kn.eta, Pi.eta, Pu.eta, Rg.eta, Sc.eta, Sc.eta_r, Sc.eta_k, Sc.eta_2, -eq_self]); clear e
  intro e; (try simp only [e, Kn.eta, Pi.eta, Pu.eta, Rg.eta, Sc.eta, Sc.eta_r, Sc.eta_k, Sc.eta_2, -eq_self]); clear e
  (obtain rfl := eqz c4; have hg := kd_ok c0 c1 c2 c3 (l := 32) rfl; obtain rfl := eqz c13; exact agg_Kn (kd_op hg c5 rfl))
  refine ⟨fun c14 => ?_, fun c14 => ?_⟩
  intro e; (try simp only [e, Kn.eta, Pi.eta, Pu.eta, Rg.eta, Sc.eta, Sc.eta_r, Sc.eta_k, Sc.eta_2, -eq_self]); clear e
  (obtain rfl := eqz c4; have hg := kd_ok c0 c1 c2 c3 (l := 32) rfl; obtain rfl := eqz c14; exact agg_Kn (kd_op hg c5 rfl))
  refine ⟨fun c15 => ?_, fun c15 => ?_⟩
  intro e; (try simp only [e, Kn.eta, Pi.eta, Pu.eta, Rg.eta, Sc.eta, Sc.eta_r, Sc.eta_k, Sc.eta_2, -eq_self]); clear e
  (obtain rfl := eqz c4; have hg := kd_ok c0 c1 c2 c3 (l := 32) rfl; obtain rfl := eqz c15; exact agg_Kn (kd_op hg c5 rfl))
  refine ⟨fun c16 => ?_, fun c16 => ?_⟩
  intro e; (try simp only [e, Kn.eta, Pi.eta, Pu.eta, Rg.eta, Sc.eta, Sc.eta_r, Sc.eta_k, Sc.eta_2, -eq_self]); clear e
  intro e; (try simp only [e, Kn.eta, Pi.eta, Pu.eta, Rg.eta, Sc.eta, Sc.eta_r, Sc.eta_k, Sc.eta_2, -eq_self]); clear e
  (obtain rfl := eqz c4; have hg := kd_ok c0 c1 c2 c3 (l := 32) rfl; obtain rfl := eqz c16; exact agg_Kn (kd_op hg c5 rfl))
  refine ⟨fun c17 => ?_, fun c17 => ?_⟩
  intro e; (try simp only [e, Kn.eta, Pi.eta, Pu.eta, Rg.eta, Sc.eta, Sc.eta_r, Sc.eta_k, Sc.eta_2, -eq_self]); clear e
  intro e; (try simp only [e, Kn.eta, Pi.eta, Pu.eta, Rg.eta, Sc.eta, Sc.eta_r, Sc.eta_k, Sc.eta_2, -eq_self]); clear e
  (obtain rfl := eqz c4; have hg := kd_ok c0 c1 c2 c3 (l := 32) rfl; obtain rfl := eqz c17; exact agg_Kn (kd_op hg c5 rfl))
  refine ⟨fun c18 => ?_, fun c18 => ?_⟩
  intro e; (try simp only [e, Kn.eta, Pi.eta, Pu.eta, Rg.eta, Sc.eta, Sc.eta_r, Sc.eta_k, Sc.eta_2, -eq_self]); clear e
  intro e; (try simp only [e, Kn.eta, Pi.eta, Pu.eta, Rg.eta, Sc.eta, Sc.eta_r, Sc.eta_k, Sc.eta_2, -eq_self]); clear e
  (obtain rfl := eqz c4; have hg := kd_ok c0 c1 c2 c3 (l := 32) rfl; obtain rfl := eqz c18; exact agg_Kn (kd_op hg c5 rfl))
  refine ⟨fun c19 => ?_, fun c19 => ?_⟩
  intro e; (try simp only [e, Kn.eta, Pi.eta, Pu.eta, Rg.eta, Sc.eta, Sc.eta_r, Sc.eta_k, Sc.eta_2, -eq_self]); clear e
  (obtain rfl := eqz c4; have hg := kd_ok c0 c1 c2 c3 (l := 32) rfl; obtain rfl := eqz c19; exact agg_Kn (kd_op hg c5 rfl))
  refine ⟨fun c20 => ?_, fun c20 => ?_⟩
  intro e; (try simp only [e, Kn.eta, Pi.eta, Pu.eta, Rg.eta, Sc.eta, Sc.eta_r, Sc.eta_k, Sc.eta_2, -eq_self]); clear e
  intro e; (try simp only [e, Kn.eta, Pi.eta, Pu.eta, Rg.eta, Sc.eta, Sc.eta_r, Sc.eta_k, Sc.eta_2, -eq_self]); clear e
  (obtain rfl := eqz c4; have hg := kd_ok c0 c1 c2 c3 (l := 32) rfl; obtain rfl := eqz c20; exact agg_Kn (kd_op hg c5 rfl))
  refine ⟨fun c21 => ?_, fun c21 => ?_⟩
  intro e; (try simp only [e, Kn.eta, Pi.eta, Pu.eta, Rg.eta, Sc.eta, Sc.eta_r, Sc.eta_k, Sc.eta_2, -eq_self]); clear e
  intro e; (try simp only [e, Kn.eta, Pi.eta, Pu.eta, Rg.eta, Sc.eta, Sc.eta_r, Sc.eta_k, Sc.eta_2, -eq_self]); clear e
  (obtain rfl := eqz c4; have hg := kd_ok c0 c1 c2 c3 (l := 32) rfl; obtain rfl := eqz c21; exact agg_Kn (kd_op hg c5 rfl))
  show False
  (have h2 := of_decide_eq_false c2; have h3 := of_decide_eq_false c3; have h10 := nez c6; have h11 := nez c8; have h12 := nez c10; have h13 := nez c12; have h14 := nez c13; have h15 := nez c14; have h16 := nez c15; have h17 := nez c16; have h18 := nez c17; have h19 := nez c18; have h20 := nez c19; have h21 := nez c20; have h22 := nez c21; omega)
  refine ⟨fun c22 => ?_, fun c22 => ?_⟩
  intro e; (try simp only [e, Kn.eta, Pi.eta, Pu.eta, Rg.eta, Sc.eta, Sc.eta_r, Sc.eta_k, Sc.eta_2, -eq_self]); clear e
  intro e; (try simp only [e, Kn.eta, Pi.eta, Pu.eta, Rg.eta, Sc.eta, Sc.eta_r, Sc.eta_k, Sc.eta_2, -eq_self]); clear e
  refine ⟨fun c23 => ?_, fun c23 => ?_⟩
  intro e; (try simp only [e, Kn.eta, Pi.eta, Pu.eta, Rg.eta, Sc.eta, Sc.eta_r, Sc.eta_k, Sc.eta_2, -eq_self]); clear e
  intro e; (try simp only [e, Kn.eta, Pi.eta, Pu.eta, Rg.eta, Sc.eta, Sc.eta_r, Sc.eta_k, Sc.eta_2, -eq_self]); clear e
  (obtain rfl := eqz c22; have hg := kd_ok c0 c1 c2 c3 (l := 64) rfl; exact agg_Kn (kd_one hg c23))
  intro e; (try simp only [e, Kn.eta, Pi.eta, Pu.eta, Rg.eta, Sc.eta, Sc.eta_r, Sc.eta_k, Sc.eta_2, -eq_self]); clear e
  refine ⟨fun c24 => ?_, fun c24 => ?_⟩
  refine ⟨fun c25 => ?_, fun c25 => ?_⟩
  intro e; (try simp only [e, Kn.eta, Pi.eta, Pu.eta, Rg.eta, Sc.eta, Sc.eta_r, Sc.eta_k, Sc.eta_2, -eq_self]); clear e
  intro e; (try simp only [e, Kn.eta, Pi.eta, Pu.eta, Rg.eta, Sc.eta, Sc.eta_r, Sc.eta_k, Sc.eta_2, -eq_self]); clear e
  intro e; (try simp only [e, Kn.eta, Pi.eta, Pu.eta, Rg.eta, Sc.eta, Sc.eta_r, Sc.eta_k, Sc.eta_2, -eq_self]); clear e
  intro e; (try simp only [e, Kn.eta, Pi.eta, Pu.eta, Rg.eta, Sc.eta, Sc.eta_r, Sc.eta_k, Sc.eta_2, -eq_self]); clear e
  (obtain rfl := eqz c22; have hg := kd_ok c0 c1 c2 c3 (l := 64) rfl; obtain rfl := eqz c24; exact agg_Kn (kd_op hg c23 (kop_y (by decide) c25)))
  intro e; (try simp only [e, Kn.eta, Pi.eta, Pu.eta, Rg.eta, Sc.eta, Sc.eta_r, Sc.eta_k, Sc.eta_2, -eq_self]); clear e
  (obtain rfl := eqz c22; have hg := kd_ok c0 c1 c2 c3 (l := 64) rfl; obtain rfl := eqz c24; exact agg_Kn (kd_op hg c23 (kop_n (by decide) c25)))
  refine ⟨fun c26 => ?_, fun c26 => ?_⟩
  refine ⟨fun c27 => ?_, fun c27 => ?_⟩
  intro e; (try simp only [e, Kn.eta, Pi.eta, Pu.eta, Rg.eta, Sc.eta, Sc.eta_r, Sc.eta_k, Sc.eta_2, -eq_self]); clear e
  intro e; (try simp only [e, Kn.eta, Pi.eta, Pu.eta, Rg.eta, Sc.eta, Sc.eta_r, Sc.eta_k, Sc.eta_2, -eq_self]); clear e
  intro e; (try simp only [e, Kn.eta, Pi.eta, Pu.eta, Rg.eta, Sc.eta, Sc.eta_r, Sc.eta_k, Sc.eta_2, -eq_self]); clear e
  intro e; (try simp only [e, Kn.eta, Pi.eta, Pu.eta, Rg.eta, Sc.eta, Sc.eta_r, Sc.eta_k, Sc.eta_2, -eq_self]); clear e
  (obtain rfl := eqz c22; have hg := kd_ok c0 c1 c2 c3 (l := 64) rfl; obtain rfl := eqz c26; exact agg_Kn (kd_op hg c23 (kop_y (by decide) c27)))
  intro e; (try simp only [e, Kn.eta, Pi.eta, Pu.eta, Rg.eta, Sc.eta, Sc.eta_r, Sc.eta_k, Sc.eta_2, -eq_self]); clear e
  (obtain rfl := eqz c22; have hg := kd_ok c0 c1 c2 c3 (l := 64) rfl; obtain rfl := eqz c26; exact agg_Kn (kd_op hg c23 (kop_n (by decide) c27)))
  refine ⟨fun c28 => ?_, fun c28 => ?_⟩
  refine ⟨fun c29 => ?_, fun c29 => ?_⟩
  intro e; (try simp only [e, Kn.eta, Pi.eta, Pu.eta, Rg.eta, Sc.eta, Sc.eta_r, Sc.eta_k, Sc.eta_2, -eq_self]); clear e
  intro e; (try simp only [e, Kn.eta, Pi.eta, Pu.eta, Rg.eta, Sc.eta, Sc.eta_r, Sc.eta_k, Sc.eta_2, -eq_self]); clear e
  intro e; (try simp only [e, Kn.eta, Pi.eta, Pu.eta, Rg.eta, Sc.eta, Sc.eta_r, Sc.eta_k, Sc.eta_2, -eq_self]); clear e
  intro e; (try simp only [e, Kn.eta, Pi.eta, Pu.eta, Rg.eta, Sc.eta, Sc.eta_r, Sc.eta_k, Sc.eta_2, -eq_self]); clear e
  (obtain rfl := eqz c22; have hg := kd_ok c0 c1 c2 c3 (l := 64) rfl; obtain rfl := eqz c28; exact agg_Kn (kd_op hg c23 (kop_y (by decide) c29)))
  intro e; (try simp only [e, Kn.eta, Pi.eta, Pu.eta, Rg.eta, Sc.eta, Sc.eta_r, Sc.eta_k, Sc.eta_2, -eq_self]); clear e
  (obtain rfl := eqz c22; have hg := kd_ok c0 c1 c2 c3 (l := 64) rfl; obtain rfl := eqz c28; exact agg_Kn (kd_op hg c23 (kop_n (by decide) c29)))
  refine ⟨fun c30 => ?_, fun c30 => ?_⟩
  intro e; (try simp only [e, Kn.eta, Pi.eta, Pu.eta, Rg.eta, Sc.eta, Sc.eta_r, Sc.eta_k, Sc.eta_2, -eq_self]); clear e
  intro e; (try simp only [e, Kn.eta, Pi.eta, Pu.eta, Rg.eta, Sc.eta, Sc.eta_r, Sc.eta_k, Sc.eta_2, -eq_self]); clear e
  (obtain rfl := eqz c22; have hg := kd_ok c0 c1 c2 c3 (l := 64) rfl; obtain rfl := eqz c30; exact agg_Kn (kd_op hg c23 rfl))
  refine ⟨fun c31 => ?_, fun c31 => ?_⟩
  intro e; (try simp only [e, Kn.eta, Pi.eta, Pu.eta, Rg.eta, Sc.eta, Sc.eta_r, Sc.eta_k, Sc.eta_2, -eq_self]); clear e
  intro e; (try simp only [e, Kn.eta, Pi.eta, Pu.eta, Rg.eta, Sc.eta, Sc.eta_r, Sc.eta_k, Sc.eta_2, -eq_self]); clear e
  (obtain rfl := eqz c22; have hg := kd_ok c0 c1 c2 c3 (l := 64) rfl; obtain rfl := eqz c31; exact agg_Kn (kd_op hg c23 rfl))
  refine ⟨fun c32 => ?_, fun c32 => ?_⟩
  intro e; (try simp only [e, Kn.eta, Pi.eta, Pu.eta, Rg.eta, Sc.eta, Sc.eta_r, Sc.eta_k, Sc.eta_2, -eq_self]); clear e
  (obtain rfl := eqz c22; have hg := kd_ok c0 c1 c2 c3 (l := 64) rfl; obtain rfl := eqz c32; exact agg_Kn (kd_op hg c23 rfl))
  refine ⟨fun c33 => ?_, fun c33 => ?_⟩
  intro e; (try simp only [e, Kn.eta, Pi.eta, Pu.eta, Rg.eta, Sc.eta, Sc.eta_r, Sc.eta_k, Sc.eta_2, -eq_self]); clear e
  (obtain rfl := eqz c22; have hg := kd_ok c0 c1 c2 c3 (l := 64) rfl; obtain rfl := eqz c33; exact agg_Kn (kd_op hg c23 rfl))
  refine ⟨fun c34 => ?_, fun c34 => ?_⟩
  intro e; (try simp only [e, Kn.eta, Pi.eta, Pu.eta, Rg.eta, Sc.eta, Sc.eta_r, Sc.eta_k, Sc.eta_2, -eq_self]); clear e
  intro e; (try simp only [e, Kn.eta, Pi.eta, Pu.eta, Rg.eta, Sc.eta, Sc.eta_r, Sc.eta_k, Sc.eta_2, -eq_self]); clear e
  (obtain rfl := eqz c22; have hg := kd_ok c0 c1 c2 c3 (l := 64) rfl; obtain rfl := eqz c34; exact agg_Kn (kd_op hg c23 rfl))
  refine ⟨fun c35 => ?_, fun c35 => ?_⟩
  intro e; (try simp only [e, Kn.eta, Pi.eta, Pu.eta, Rg.eta, Sc.eta, Sc.eta_r, Sc.eta_k, Sc.eta_2, -eq_self]); clear e
  intro e; (try simp only [e, Kn.eta, Pi.eta, Pu.eta, Rg.eta, Sc.eta, Sc.eta_r, Sc.eta_k, Sc.eta_2, -eq_self]); clear e
  (obtain rfl := eqz c22; have hg := kd_ok c0 c1 c2 c3 (l := 64) rfl; obtain rfl := eqz c35; exact agg_Kn (kd_op hg c23 rfl))
  refine ⟨fun c36 => ?_, fun c36 => ?_⟩
  intro e; (try simp only [e, Kn.eta, Pi.eta, Pu.eta, Rg.eta, Sc.eta, Sc.eta_r, Sc.eta_k, Sc.eta_2, -eq_self]); clear e
  intro e; (try simp only [e, Kn.eta, Pi.eta, Pu.eta, Rg.eta, Sc.eta, Sc.eta_r, Sc.eta_k, Sc.eta_2, -eq_self]); clear e
  (obtain rfl := eqz c22; have hg := kd_ok c0 c1 c2 c3 (l := 64) rfl; obtain rfl := eqz c36; exact agg_Kn (kd_op hg c23 rfl))
  refine ⟨fun c37 => ?_, fun c37 => ?_⟩
  intro e; (try simp only [e, Kn.eta, Pi.eta, Pu.eta, Rg.eta, Sc.eta, Sc.eta_r, Sc.eta_k, Sc.eta_2, -eq_self]); clear e
  (obtain rfl := eqz c22; have hg := kd_ok c0 c1 c2 c3 (l := 64) rfl; obtain rfl := eqz c37; exact agg_Kn (kd_op hg c23 rfl))
  refine ⟨fun c38 => ?_, fun c38 => ?_⟩
  intro e; (try simp only [e, Kn.eta, Pi.eta, Pu.eta, Rg.eta, Sc.eta, Sc.eta_r, Sc.eta_k, Sc.eta_2, -eq_self]); clear e
  intro e; (try simp only [e, Kn.eta, Pi.eta, Pu.eta, Rg.eta, Sc.eta, Sc.eta_r, Sc.eta_k, Sc.eta_2, -eq_self]); clear e
  (obtain rfl := eqz c22; have hg := kd_ok c0 c1 c2 c3 (l := 64) rfl; obtain rfl := eqz c38; exact agg_Kn (kd_op hg c23 rfl))
  refine ⟨fun c39 => ?_, fun c39 => ?_⟩
  intro e; (try simp only [e, Kn.eta, Pi.eta, Pu.eta, Rg.eta, Sc.eta, Sc.eta_r, Sc.eta_k, Sc.eta_2, -eq_self]); clear e
  intro e; (try simp only [e, Kn.eta, Pi.eta, Pu.eta, Rg.eta, Sc.eta, Sc.eta_r, Sc.eta_k, Sc.eta_2, -eq_self]); clear e
  (obtain rfl := eqz c22; have hg := kd_ok c0 c1 c2 c3 (l := 64) rfl; obtain rfl := eqz c39; exact agg_Kn (kd_op hg c23 rfl))
  show False
  (have h2 := of_decide_eq_false c2; have h3 := of_decide_eq_false c3; have h10 := nez c24; have h11 := nez c26; have h12 := nez c28; have h13 := nez c30; have h14 := nez c31; have h15 := nez c32; have h16 := nez c33; have h17 := nez c34; have h18 := nez c35; have h19 := nez c36; have h20 := nez c37; have h21 := nez c38; have h22 := nez c39; omega)
  intro e; (try simp only [e, Kn.eta, Pi.eta, Pu.eta, Rg.eta, Sc.eta, Sc.eta_r, Sc.eta_k, Sc.eta_2, -eq_self]); clear e
  exact agg_Kn (kd_bad (kd_w c4 c22))
  intro e; (try simp only [e, Kn.eta, Pi.eta, Pu.eta, Rg.eta, Sc.eta, Sc.eta_r, Sc.eta_k, Sc.eta_2, -eq_self]); clear e
  exact agg_Kn (kd_bad (kd_b c1))
  intro e; (try simp only [e, Kn.eta, Pi.eta, Pu.eta, Rg.eta, Sc.eta, Sc.eta_r, Sc.eta_k, Sc.eta_2, -eq_self]); clear e
  exact agg_Kn (kd_bad (kd_a c0))
theorem sK_kdo {sp : Spec} {key : Nat} (hF : sp.F key = sF_kdo) (hP : sp.pre key = fun _ => True := by rfl) : SmOk Tryz.prog sp (sM_kdo key) :=
  fun_ok (s := sM_kdo key) hF hP (by kernel_rfl) tysok_KaD (smc (sK_kmay rfl) (smc (sK_kall rfl) (smc (sK_kcut rfl) (smc (sK_bits rfl) (smc (sK_kone rfl) (smc (sK_kmask rfl) (smc (sK_kadd rfl) (smc (sK_ksub rfl) (smc (sK_kor rfl) (smc (sK_kand rfl) (smc (sK_kneg rfl) (smc (sK_kxor rfl) (smc (sK_ksec rfl) sm0))))))))))))) Tryz.func69 sR_kdo (.inl rfl) (fun x0 gx0 x1 gx1 x2 gx2 x3 gx3 x4 gx4 x5 gx5 hp ρ g => sX_kdo x0 gx0 x1 gx1 ⟨x2, x3⟩ ⟨gx2, gx3⟩ ⟨x4, x5⟩ ⟨gx4, gx5⟩ ρ g)
end Go.Proofs.YtcfnglbcgkappaaGreat
