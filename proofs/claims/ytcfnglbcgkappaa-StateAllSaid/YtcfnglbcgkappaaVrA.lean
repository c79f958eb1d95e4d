/- Contracts of the document's own packages of layers 8 and 9, by the symbolic run. -/
import Derived.Test.YtcfnglbcgkappaaVrL
import Derived.Test.YtcfnglbcgkappaaVqA
import Derived.Test.YtcfnglbcgkappaaProg
import Derived.Laws.Externs
set_option linter.unusedVariables false
set_option linter.unusedSimpArgs false
namespace Go.Proofs.Ytcfnglbcgkappaa
open Go.RowKit Go.ChangeShapes Go.WideShapes

def tys_VrA : List (Nat × TI) := [(2, ⟨false, 1, [.int .i64 (.lit 0)], [], none, some .i64, false, false, none, 8, false⟩),
 (3, ⟨false, 1, [.int .i64 (.lit 0)], [], none, some .i64, false, false, none, 8, false⟩),
 (22, ⟨false, 1, [.int .i8 (.lit 0)], [], none, some .i8, false, false, none, 1, false⟩),
 (23, ⟨false, 1, [.int .u64 (.lit 0)], [], none, some .u64, false, false, none, 8, false⟩),
 (25, ⟨true, 4, [.int .u64 (.lit 0), .int .u64 (.lit 0), .int .i64 (.lit 0), .int .i64 (.lit 0)], [(0, 23), (1, 23), (2, 2), (3, 2)], none, none, false, false, none, 32, false⟩),
 (27, ⟨true, 2, [.int .u64 (.lit 0), .int .u64 (.lit 0)], [(0, 23), (1, 23)], none, none, false, false, none, 16, false⟩),
 (29, ⟨true, 6, [.int .u64 (.lit 0), .int .u64 (.lit 0), .int .i64 (.lit 0), .int .i64 (.lit 0), .int .u64 (.lit 0), .int .u64 (.lit 0)], [(0, 25), (4, 27)], none, none, false, false, none, 48, false⟩),
 (56, ⟨false, 1, [.int .u64 (.lit 0)], [], none, some .u64, false, false, none, 8, false⟩)]
set_option maxRecDepth 100000 in
theorem tysck_VrA : (tys_VrA.all fun p => ckTI Try.prog p.1 p.2) = true := by kernel_rfl
theorem tysne_VrA : (tys_VrA.all fun p => !p.2.eqok) = true := by kernel_rfl
theorem tysok_VrA : ∀ t i, (t, i) ∈ tys_VrA → TIok Try.prog t i := by
  intro t i h
  have h1 := all_at (f := fun _ i => !i.eqok) tysne_VrA h
  exact TIok_of (all_at (f := ckTI Try.prog) tysck_VrA h) (fun he => by simp [he] at h1) (fun he => by simp [he] at h1)
def sM_wmay (key : Nat) : Sm := ⟨53, key, [.agg kSc], [.one .bool], false⟩
def sV_wmay (a : Sc) : List Dt := [.z (b2i (vmay a))]
def sF_wmay : List Dt → List Dt
  | [.z x0, .z x1, .z x2, .z x3, .z x4, .z x5] => sV_wmay ⟨x0, x1, x2, x3, x4, x5⟩
  | _ => []
def sT_wmay : Tr :=
(.call 0 ([.bool]) (.vs 0 4 .nil) 6
(.br (.bvar 6)
(.call 1 ([.bool]) (.vs 4 2 .nil) 7
(.leaf (.consb (.bvar 7) .nil)))
(.leaf (.consb (.tt false) .nil))))
def sP_wmay : Spec := ⟨fun k => match k with | 0 => sF_rmay | 1 => sF_qmay | _ => fun _ => [], fun k => match k with | _ => fun _ => True⟩
set_option maxRecDepth 100000 in
theorem sR_wmay : treeIs tys_VrA [sM_rmay 0, sM_qmay 1] [] [] [] 200 Try.f53 [.agg kSc] [.one .bool] false [.int .u64, .int .u64, .int .i64, .int .i64, .int .u64, .int .u64] sT_wmay := ⟨by kernel_rfl, by kernel_rfl, by kernel_rfl⟩
set_option maxRecDepth 100000 in
set_option maxHeartbeats 8000000 in
theorem sX_wmay (a : Sc) (ha : Sc.ok a) (ρ : Env) (g : varsD ρ 0 [.int .u64, .int .u64, .int .i64, .int .i64, .int .u64, .int .u64] = [.z a.ul, .z a.uh, .z a.sl, .z a.sh, .z a.v, .z a.m]) : sT_wmay.asks sP_wmay (fun ρ e => e.D ρ = sF_wmay [.z a.ul, .z a.uh, .z a.sl, .z a.sh, .z a.v, .z a.m]) ρ fun _ _ => False := by
  simp only [varsD, varD, List.cons.injEq, Dt.z.injEq, Dt.l.injEq, b2i_eq_iff, Nat.reduceAdd, and_true] at g
  simp only [sT_wmay, sP_wmay, sF_rmay, sF_qmay, sV_rmay, sV_qmay, sF_wmay, sV_wmay, Tr.asks, upd_same, okDs, okD, eqs, E.I, E.B, E.L, E.R, E.D, E.vs, dI, dB, dL, varD, varsD, List.getElem?_cons_zero, List.getElem?_cons_succ, List.cons_append, List.nil_append, Nat.zero_add, Nat.add_zero, Nat.reduceAdd, and_true, true_and, b2i_one, -eq_self, Kn.eta, Pi.eta, Pu.eta, Rg.eta, Sc.eta, Sc.eta_r, Sc.eta_k, Sc.eta_2, g]
  intro e; (try simp only [e, Kn.eta, Pi.eta, Pu.eta, Rg.eta, Sc.eta, Sc.eta_r, Sc.eta_k, Sc.eta_2, -eq_self]); clear e
  refine ⟨fun c0 => ?_, fun c0 => ?_⟩
  intro e; (try simp only [e, Kn.eta, Pi.eta, Pu.eta, Rg.eta, Sc.eta, Sc.eta_r, Sc.eta_k, Sc.eta_2, -eq_self]); clear e
  · (unfold vmay; simp_all)
  · (unfold vmay; simp_all)
theorem sK_wmay {sp : Spec} {key : Nat} (hF : sp.F key = sF_wmay) (hP : sp.pre key = fun _ => True := by rfl) : SmOk Try.prog sp (sM_wmay key) :=
  fun_ok (s := sM_wmay key) hF hP (by kernel_rfl) tysok_VrA (smc (sK_rmay rfl) (smc (sK_qmay rfl) sm0)) Try.func53 fn0 sR_wmay (.inl rfl) (fun x0 gx0 x1 gx1 x2 gx2 x3 gx3 x4 gx4 x5 gx5 hp ρ g => sX_wmay ⟨x0, x1, x2, x3, x4, x5⟩ ⟨gx0, gx1, gx2, gx3, gx4, gx5⟩ ρ g)
end Go.Proofs.Ytcfnglbcgkappaa

