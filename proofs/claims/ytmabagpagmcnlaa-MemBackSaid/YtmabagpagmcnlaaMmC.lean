/- What the laws are awake by. -/
import Derived.Test.YtmabagpagmcnlaaMmB
import Derived.Test.YtmabagpagmcnlaaProg
import Derived.Laws.Externs
set_option linter.unusedVariables false
set_option linter.unusedSimpArgs false
namespace Go.Proofs.Ytmabagpagmcnlaa
open Go.RowKit Go.ChangeShapes Go.WideShapes

def tys_MmC : List (Nat × TI) := [(3, ⟨false, 1, [.int .i64 (.lit 0)], [], none, some .i64, false, false, none, 8, false, none, false, 0⟩),
 (4, ⟨false, 1, [.bool (.tt false)], [], none, none, false, true, none, 1, false, none, false, 0⟩),
 (5, ⟨false, 1, [.int .u8 (.lit 0)], [], none, some .u8, false, false, none, 1, false, none, false, 0⟩),
 (22, ⟨false, 1, [.nsl], [], none, none, false, false, some 5, 24, false, none, false, 0⟩),
 (23, ⟨false, 1, [.int .u64 (.lit 0)], [], none, some .u64, false, false, none, 8, false, none, false, 0⟩),
 (25, ⟨false, 1, [.nilp], [], none, none, false, false, none, 8, false, none, false, 1⟩),
 (26, ⟨false, 1, [.int .i64 (.lit 0)], [], none, some .i64, false, false, none, 8, false, none, false, 0⟩),
 (82, ⟨true, 3, [.int .u64 (.lit 0), .nsl, .bool (.tt false)], [(0, 23), (1, 22), (2, 4)], none, none, false, false, none, 40, false, none, false, 0⟩),
 (83, ⟨true, 12, [.int .u64 (.lit 0), .nsl, .bool (.tt false), .int .u64 (.lit 0), .nsl, .bool (.tt false), .int .u64 (.lit 0), .nsl, .bool (.tt false), .int .u64 (.lit 0), .nsl, .bool (.tt false)], [], some (4, 82), none, false, false, none, 160, false, none, false, 0⟩),
 (85, ⟨true, 12, [.int .u64 (.lit 0), .nsl, .bool (.tt false), .int .u64 (.lit 0), .nsl, .bool (.tt false), .int .u64 (.lit 0), .nsl, .bool (.tt false), .int .u64 (.lit 0), .nsl, .bool (.tt false)], [(0, 83)], none, none, false, false, none, 160, false, none, false, 0⟩)]
set_option maxRecDepth 100000 in
theorem tysck_MmC : (tys_MmC.all fun p => ckTI Try.prog p.1 p.2) = true := by kernel_rfl
theorem tyseq_MmC : (tys_MmC.all fun p => !p.2.eqok) = true := by kernel_rfl
theorem tyskn_MmC : (tys_MmC.all fun p => !p.2.keyok) = true := by kernel_rfl
theorem tysok_MmC : ∀ t i, (t, i) ∈ tys_MmC → TIok Try.prog t i := by
  intro t i h
  refine TIok_of (all_at (f := ckTI Try.prog) tysck_MmC h) (fun he => ?_) (fun he => ?_) (fun he => ?_)
  · have h1 := List.all_eq_true.1 tyseq_MmC (t, i) h
    simp [he] at h1
  · have h1 := List.all_eq_true.1 tyseq_MmC (t, i) h
    simp [he] at h1
  · have h1 := List.all_eq_true.1 tyskn_MmC (t, i) h
    simp [he] at h1
def sM_mwakes (key : Nat) : Sm := ⟨12, key, [], [.one .bool], false⟩
def sF_mwakes : List Dt → List Dt
  | [] => [.z (b2i true)]
  | _ => []
def sT_mwakes : Tr :=
(.call 0 [.int .u64, .int .i64] (.cons (.lit 1048576) (.consl (.lrep (.lit 2) (.cons (.lit 0) .nil)) (.consb (.tt false) (.cons (.lit 2097152) (.consl (.lrep (.lit 4) (.cons (.lit 0) .nil)) (.consb (.tt true) (.cons (.lit 3145728) (.consl (.lset (.lset (.lset (.lset (.lset (.lset (.lset (.lset (.lrep (.lit 64) (.cons (.lit 0) .nil)) (.lit 56) 0 (.lit 34)) (.lit 57) 0 (.lit 17)) (.lit 58) 0 (.lit 0)) (.lit 59) 0 (.lit 0)) (.lit 60) 0 (.lit 0)) (.lit 61) 0 (.lit 0)) (.lit 62) 0 (.lit 0)) (.lit 63) 0 (.lit 0)) (.consb (.tt true) (.cons (.lit 4194304) (.consl (.lrep (.lit 264) (.cons (.lit 0) .nil)) (.consb (.tt true) (.cons (.lit 3145785) (.cons (.lit 1) .nil)))))))))))))) 0
(.br (.eq (.var 0) (.lit 17))
(.br (.eq (.var 1) (.lit 0))
(.leaf (.consb (.tt true) .nil))
(.leaf (.consb (.tt false) .nil)))
(.leaf (.consb (.tt false) .nil))))
def sP_mwakes : Spec := ⟨fun k => match k with | 0 => sF_mread | _ => fun _ => [], fun k => match k with | 0 => sQ_mread | _ => fun _ => True⟩
set_option maxRecDepth 100000 in
theorem sR_mwakes : treeIs tys_MmC [sM_mread 0] [(13, Try.f13, [], []), (38, Try.f38, [], []), (19, Try.f19, [], []), (40, Try.f40, [], []), (39, Try.f39, [], [])] [(999998, [])] [] 200 Try.f12 [] [.one .bool] false [] sT_mwakes := ⟨by kernel_rfl, by kernel_rfl, by kernel_rfl⟩
set_option maxRecDepth 100000 in
set_option maxHeartbeats 8000000 in
theorem sX_mwakes  (ρ : Env) (g : varsD ρ 0 [] = []) : sT_mwakes.asks sP_mwakes (fun ρ e => e.D ρ = sF_mwakes []) ρ fun _ _ => False := by
  simp only [sT_mwakes, sP_mwakes, sF_mread, sV_mread, sF_mwakes, sQ_mread, Tr.asks, upd_same, okDs, okD, eqs, E.I, E.B, E.L, E.R, E.D, E.vs, dI, dB, dL, varD, varsD, List.getElem?_cons_zero, List.getElem?_cons_succ, List.cons_append, List.nil_append, Nat.zero_add, Nat.add_zero, Nat.reduceAdd, and_true, true_and, b2i_one, -eq_self, Mem.eta]
  refine ⟨?_, ?_⟩
  · exact ⟨rfl, rfl, rfl, rfl, rfl, rfl, rfl, rfl, by decide, by decide, by decide, by decide⟩
  intro e; have e : ρ.i 0 = 17 ∧ ρ.i 1 = 0 := ⟨e.1.trans (by kernel_rfl), e.2.trans (by kernel_rfl)⟩; (try simp only [e, Mem.eta, -eq_self]); clear e
  refine ⟨fun c0 => ?_, fun c0 => ?_⟩
  refine ⟨fun c1 => ?_, fun c1 => ?_⟩
  · first | rfl | cases c1
  · first | rfl | cases c1
  · first | rfl | cases c0
theorem sK_mwakes {sp : Spec} {key : Nat} (hF : sp.F key = sF_mwakes) (hP : sp.pre key = fun _ => True := by rfl) : SmOk Try.prog sp (sM_mwakes key) :=
  fun_ok (s := sM_mwakes key) hF hP (by kernel_rfl) tysok_MmC (smc (sK_mread rfl rfl) sm0) Try.func12 (fnc Try.func13 (fnc Try.func38 (fnc Try.func19 (fnc Try.func40 (fnc Try.func39 fn0))))) sR_mwakes (.inl rfl) (fun  hp ρ g => sX_mwakes ρ g)
end Go.Proofs.Ytmabagpagmcnlaa
