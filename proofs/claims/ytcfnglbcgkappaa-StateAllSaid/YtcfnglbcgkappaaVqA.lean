/- Contracts of the document's own package of layer 8, by the symbolic run. -/
import Derived.Test.YtcfnglbcgkappaaKnZ
import Derived.Test.YtcfnglbcgkappaaVk
import Derived.Test.YtcfnglbcgkappaaProg
import Derived.Laws.Externs
set_option linter.unusedVariables false
set_option linter.unusedSimpArgs false
namespace Go.Proofs.Ytcfnglbcgkappaa
open Go.RowKit Go.ChangeShapes Go.WideShapes

def tys_VqA : List (Nat × TI) := [(23, ⟨false, 1, [.int .u64 (.lit 0)], [], none, some .u64, false, false, none, 8, false⟩),
 (27, ⟨true, 2, [.int .u64 (.lit 0), .int .u64 (.lit 0)], [(0, 23), (1, 23)], none, none, false, false, none, 16, false⟩)]
set_option maxRecDepth 100000 in
theorem tysck_VqA : (tys_VqA.all fun p => ckTI Try.prog p.1 p.2) = true := by kernel_rfl
theorem tysne_VqA : (tys_VqA.all fun p => !p.2.eqok) = true := by kernel_rfl
theorem tysok_VqA : ∀ t i, (t, i) ∈ tys_VqA → TIok Try.prog t i := by
  intro t i h
  have h1 := all_at (f := fun _ i => !i.eqok) tysne_VqA h
  exact TIok_of (all_at (f := ckTI Try.prog) tysck_VqA h) (fun he => by simp [he] at h1) (fun he => by simp [he] at h1)
def sM_qmay (key : Nat) : Sm := ⟨81, key, [.agg kKn], [.one .bool], false⟩
def sV_qmay (a : Kn) : List Dt := [.z (b2i (kmay a))]
def sF_qmay : List Dt → List Dt
  | [.z x0, .z x1] => sV_qmay ⟨x0, x1⟩
  | _ => []
def sT_qmay : Tr :=
(.leaf (.consb (.eq (.bin .and .u64 (.var 0) (.var 1)) (.lit 0)) .nil))
def sP_qmay : Spec := ⟨fun k => match k with | _ => fun _ => [], fun k => match k with | _ => fun _ => True⟩
set_option maxRecDepth 100000 in
theorem sR_qmay : treeIs tys_VqA [] [] [] [] 200 Try.f81 [.agg kKn] [.one .bool] false [.int .u64, .int .u64] sT_qmay := ⟨by kernel_rfl, by kernel_rfl, by kernel_rfl⟩
set_option maxRecDepth 100000 in
set_option maxHeartbeats 8000000 in
theorem sX_qmay (a : Kn) (ha : Kn.ok a) (ρ : Env) (g : varsD ρ 0 [.int .u64, .int .u64] = [.z a.v, .z a.m]) : sT_qmay.asks sP_qmay (fun ρ e => e.D ρ = sF_qmay [.z a.v, .z a.m]) ρ fun _ _ => False := by
  simp only [varsD, varD, List.cons.injEq, Dt.z.injEq, Dt.l.injEq, b2i_eq_iff, Nat.reduceAdd, and_true] at g
  simp only [sT_qmay, sP_qmay, sF_qmay, sV_qmay, Tr.asks, upd_same, okDs, okD, eqs, E.I, E.B, E.L, E.R, E.D, E.vs, dI, dB, dL, varD, varsD, List.getElem?_cons_zero, List.getElem?_cons_succ, List.cons_append, List.nil_append, Nat.zero_add, Nat.add_zero, Nat.reduceAdd, and_true, true_and, b2i_one, -eq_self, Kn.eta, Sc.eta_r, Sc.eta_k, Sc.eta_2, g]
  · rfl
theorem sK_qmay {sp : Spec} {key : Nat} (hF : sp.F key = sF_qmay) (hP : sp.pre key = fun _ => True := by rfl) : SmOk Try.prog sp (sM_qmay key) :=
  fun_ok (s := sM_qmay key) hF hP (by kernel_rfl) tysok_VqA (sm0) Try.func81 fn0 sR_qmay (.inl rfl) (fun x0 gx0 x1 gx1 hp ρ g => sX_qmay ⟨x0, x1⟩ ⟨gx0, gx1⟩ ρ g)
end Go.Proofs.Ytcfnglbcgkappaa

