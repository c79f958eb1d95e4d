/- Texts XbM, XbN, XbO in one. -/
import Derived.Test.YtcfnglbcgkappaaXbZ
import Derived.Test.YtcfnglbcgkappaaProg
import Derived.Laws.Externs
/- What the document's own Do and Given of ranges come to, case by case, as their runs have them: plain laws. -/
set_option linter.unusedSectionVars false
set_option linter.unusedSimpArgs false
set_option linter.unusedVariables false
set_option linter.unusedSimpArgs false
namespace Go.Proofs.Ytcfnglbcgkappaa
open Go Go.RowKit
section
variable {op : Int} {a b : Rg} (ha : a.ok) (hb : b.ok) (ma : bmay a = true) (mb : bmay b = true)
include ha hb
include ma mb
end
section
variable {a b : Rg}
end
end Go.Proofs.Ytcfnglbcgkappaa


/- Contracts of the small functions of the document's own package of layer 7, by the symbolic run. -/
set_option linter.unusedVariables false
set_option linter.unusedSimpArgs false
namespace Go.Proofs.Ytcfnglbcgkappaa
open Go.RowKit Go.ChangeShapes Go.WideShapes

def tys_XbN : List (Nat × TI) := [(2, ⟨false, 1, [.int .i64 (.lit 0)], [], none, some .i64, false, false, none, 8, false⟩),
 (4, ⟨false, 1, [.bool (.tt false)], [], none, none, false, true, none, 1, false⟩),
 (23, ⟨false, 1, [.int .u64 (.lit 0)], [], none, some .u64, false, false, none, 8, false⟩),
 (25, ⟨true, 4, [.int .u64 (.lit 0), .int .u64 (.lit 0), .int .i64 (.lit 0), .int .i64 (.lit 0)], [(0, 23), (1, 23), (2, 2), (3, 2)], none, none, false, false, none, 32, false⟩)]
set_option maxRecDepth 100000 in
theorem tysck_XbN : (tys_XbN.all fun p => ckTI Try.prog p.1 p.2) = true := by kernel_rfl
theorem tysne_XbN : (tys_XbN.all fun p => !p.2.eqok) = true := by kernel_rfl
theorem tysok_XbN : ∀ t i, (t, i) ∈ tys_XbN → TIok Try.prog t i := by
  intro t i h
  have h1 := all_at (f := fun _ i => !i.eqok) tysne_XbN h
  exact TIok_of (all_at (f := ckTI Try.prog) tysck_XbN h) (fun he => by simp [he] at h1) (fun he => by simp [he] at h1)
def sM_rmay (key : Nat) : Sm := ⟨80, key, [.agg kRg], [.one .bool], false⟩
def sV_rmay (a : Rg) : List Dt := [.z (b2i (bmay a))]
def sF_rmay : List Dt → List Dt
  | [.z x0, .z x1, .z x2, .z x3] => sV_rmay ⟨x0, x1, x2, x3⟩
  | _ => []
def sT_rmay : Tr :=
(.br (.lt (.var 1) (.var 0))
(.leaf (.consb (.tt false) .nil))
(.leaf (.consb (.not (.lt (.var 3) (.var 2))) .nil)))
def sP_rmay : Spec := ⟨fun k => match k with | _ => fun _ => [], fun k => match k with | _ => fun _ => True⟩
set_option maxRecDepth 100000 in
theorem sR_rmay : treeIs tys_XbN [] [] [] [] 200 Try.f80 [.agg kRg] [.one .bool] false [.int .u64, .int .u64, .int .i64, .int .i64] sT_rmay := ⟨by kernel_rfl, by kernel_rfl, by kernel_rfl⟩
set_option maxRecDepth 100000 in
set_option maxHeartbeats 8000000 in
theorem sX_rmay (a : Rg) (ha : Rg.ok a) (ρ : Env) (g : varsD ρ 0 [.int .u64, .int .u64, .int .i64, .int .i64] = [.z a.ul, .z a.uh, .z a.sl, .z a.sh]) : sT_rmay.asks sP_rmay (fun ρ e => e.D ρ = sF_rmay [.z a.ul, .z a.uh, .z a.sl, .z a.sh]) ρ fun _ _ => False := by
  simp only [varsD, varD, List.cons.injEq, Dt.z.injEq, Dt.l.injEq, b2i_eq_iff, Nat.reduceAdd, and_true] at g
  simp only [sT_rmay, sP_rmay, sF_rmay, sV_rmay, Tr.asks, upd_same, okDs, okD, eqs, E.I, E.B, E.L, E.R, E.D, E.vs, dI, dB, dL, varD, varsD, List.getElem?_cons_zero, List.getElem?_cons_succ, List.cons_append, List.nil_append, Nat.zero_add, Nat.add_zero, Nat.reduceAdd, and_true, true_and, b2i_one, -eq_self, Rg.eta, g]
  refine ⟨fun c0 => ?_, fun c0 => ?_⟩
  · (unfold bmay; simp_all [not_lt_le]; try (intros; omega))
  · (unfold bmay; simp_all [not_lt_le]; try (intros; omega))
theorem sK_rmay {sp : Spec} {key : Nat} (hF : sp.F key = sF_rmay) (hP : sp.pre key = fun _ => True := by rfl) : SmOk Try.prog sp (sM_rmay key) :=
  fun_ok (s := sM_rmay key) hF hP (by kernel_rfl) tysok_XbN (sm0) Try.func80 fn0 sR_rmay (.inl rfl) (fun x0 gx0 x1 gx1 x2 gx2 x3 gx3 hp ρ g => sX_rmay ⟨x0, x1, x2, x3⟩ ⟨gx0, gx1, gx2, gx3⟩ ρ g)
end Go.Proofs.Ytcfnglbcgkappaa


/- Contracts of Do and Given of the document's own package of layer 7, by the symbolic run. -/
set_option linter.unusedVariables false
set_option linter.unusedSimpArgs false
namespace Go.Proofs.Ytcfnglbcgkappaa
open Go.RowKit Go.ChangeShapes Go.WideShapes

end Go.Proofs.Ytcfnglbcgkappaa

