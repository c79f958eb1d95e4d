/- What the laws of layer 21 are awake by. -/
import Derived.Test.YtoaffiooliclgaaAlK
import Derived.Test.YtoaffiooliclgaaProg
import Derived.Laws.Externs
set_option linter.unusedVariables false
set_option linter.unusedSimpArgs false
namespace Go.Proofs.Ytoaffiooliclgaa
open Go.RowKit Go.ChangeShapes Go.WideShapes

def tys_AlL : List (Nat × TI) := [(3, ⟨false, 1, [.int .i64 (.lit 0)], [], none, some .i64, false, false, none, 8, false, none, false, 0⟩),
 (4, ⟨false, 1, [.bool (.tt false)], [], none, none, false, true, none, 1, false, none, false, 0⟩),
 (22, ⟨false, 1, [.nsl], [], none, none, false, false, some 25, 24, false, none, false, 0⟩),
 (25, ⟨true, 4, [.int .i64 (.lit 0), .int .i64 (.lit 0), .int .i64 (.lit 0), .bool (.tt false)], [(0, 3), (1, 3), (2, 3), (3, 4)], none, none, false, false, none, 32, false, none, false, 0⟩),
 (26, ⟨false, 1, [.int .i8 (.lit 0)], [], none, some .i8, false, false, none, 1, false, none, false, 0⟩),
 (28, ⟨true, 2, [.int .i8 (.lit 0), .int .i8 (.lit 0)], [(0, 26), (1, 26)], none, none, true, false, none, 2, false, none, true, 0⟩),
 (29, ⟨true, 22, [.int .i8 (.lit 0), .int .i8 (.lit 0), .int .i8 (.lit 0), .int .i8 (.lit 0), .int .i8 (.lit 0), .int .i8 (.lit 0), .int .i8 (.lit 0), .int .i8 (.lit 0), .int .i8 (.lit 0), .int .i8 (.lit 0), .int .i8 (.lit 0), .int .i8 (.lit 0), .int .i8 (.lit 0), .int .i8 (.lit 0), .int .i8 (.lit 0), .int .i8 (.lit 0), .int .i8 (.lit 0), .int .i8 (.lit 0), .int .i8 (.lit 0), .int .i8 (.lit 0), .int .i8 (.lit 0), .int .i8 (.lit 0)], [], some (11, 28), none, false, false, none, 22, false, none, false, 0⟩),
 (30, ⟨false, 1, [.int .i64 (.lit 0)], [], none, some .i64, false, false, none, 8, false, none, false, 0⟩)]
set_option maxRecDepth 100000 in
theorem tysck_AlL : (tys_AlL.all fun p => ckTI Try.prog p.1 p.2) = true := by kernel_rfl
theorem tyseq_AlL : (tys_AlL.all fun p => !p.2.eqok || ((Nat.beq p.1 28 && kindsC p.2.zero z_Place))) = true := by kernel_rfl
theorem tyskn_AlL : (tys_AlL.all fun p => !p.2.keyok || ((Nat.beq p.1 28 && kindsC p.2.zero z_Place))) = true := by kernel_rfl
theorem tysok_AlL : ∀ t i, (t, i) ∈ tys_AlL → TIok Try.prog t i := by
  intro t i h
  refine TIok_of (all_at (f := ckTI Try.prog) tysck_AlL h) (fun he => ?_) (fun he => ?_) (fun he => ?_)
  · have h1 := List.all_eq_true.1 tyseq_AlL (t, i) h
    simp only [he, Bool.not_true, Bool.false_or, Bool.or_eq_true, Bool.and_eq_true] at h1
    have hs := h1.2
    obtain rfl := Nat.eq_of_beq_eq_true h1.1
    exact fun vs us hv hu => eq_Place vs us (kindsV_of hs hv) (kindsV_of hs hu)
  · have h1 := List.all_eq_true.1 tyseq_AlL (t, i) h
    simp only [he, Bool.not_true, Bool.false_or, Bool.or_eq_true, Bool.and_eq_true] at h1
    have hs := h1.2
    obtain rfl := Nat.eq_of_beq_eq_true h1.1
    exact grd_Place
  · have h1 := List.all_eq_true.1 tyskn_AlL (t, i) h
    simp only [he, Bool.not_true, Bool.false_or, Bool.or_eq_true, Bool.and_eq_true] at h1
    have hs := h1.2
    obtain rfl := Nat.eq_of_beq_eq_true h1.1
    exact fun vs hv => key_Place vs (kindsV_of hs hv)
def sM_awakes (key : Nat) : Sm := ⟨6, key, [], [.one .bool], false⟩
def sF_awakes : List Dt → List Dt
  | [] => [.z (b2i true)]
  | _ => []
def sT_awakes : Tr :=
(.call 0 (kP11 ++ [.int .i64]) (.consl (.lcat (.lapp .lnil (.cons (.lit 1) (.cons (.lit 0) (.cons (.lit 5) (.consb (.tt false) .nil))))) (.lapp .lnil (.cons (.lit 2) (.cons (.lit 6) (.cons (.lit 9) (.consb (.tt false) .nil)))))) .nil) 0
(.br (.eq (.var 22) (.lit 0))
(.br (.eq (.var 2) (.lit 1))
(.br (.eq (.var 3) (.lit 3))
(.br (.eq (.var 4) (.lit 1))
(.br (.eq (.var 5) (.lit 3))
(.leaf (.consb (.and (.eq (.var 6) (.lit 0)) (.and (.eq (.var 7) (.lit 0)) (.tt true))) .nil))
(.leaf (.consb (.tt false) .nil)))
(.leaf (.consb (.tt false) .nil)))
(.leaf (.consb (.tt false) .nil)))
(.leaf (.consb (.tt false) .nil)))
(.leaf (.consb (.tt false) .nil))))
def sP_awakes : Spec := ⟨fun k => match k with | 0 => sF_arun | _ => fun _ => [], fun k => match k with | 0 => sQ_arun | _ => fun _ => True⟩
set_option maxRecDepth 100000 in
theorem sR_awakes : treeIs tys_AlL [sM_arun 0] [] [] [] 200 Try.f6 [] [.one .bool] false [] sT_awakes := ⟨by kernel_rfl, by kernel_rfl, by kernel_rfl⟩
set_option maxRecDepth 100000 in
set_option maxHeartbeats 8000000 in
theorem sX_awakes  (ρ : Env) (g : varsD ρ 0 [] = []) : sT_awakes.asks sP_awakes (fun ρ e => e.D ρ = sF_awakes []) ρ fun _ _ => False := by
  simp only [sT_awakes, sP_awakes, kP11, sF_arun, sV_arun, sF_awakes, sQ_arun, Tr.asks, upd_same, okDs, okD, eqs, E.I, E.B, E.L, E.R, E.D, E.vs, dI, dB, dL, varD, varsD, List.getElem?_cons_zero, List.getElem?_cons_succ, List.cons_append, List.nil_append, Nat.zero_add, Nat.add_zero, Nat.reduceAdd, and_true, true_and, b2i_one, -eq_self, Span.eta, Place.eta, P11.eta, spanAt_mk, spR_mk, kf_mk, nf_mk]
  refine ⟨?_, ?_⟩
  · decide
  intro e; have hw := aRun_wakes; have e : ρ.i 0 = 0 ∧ ρ.i 1 = 0 ∧ ρ.i 2 = 1 ∧ ρ.i 3 = 3 ∧ ρ.i 4 = 1 ∧ ρ.i 5 = 3 ∧ ρ.i 6 = 0 ∧ ρ.i 7 = 0 ∧ ρ.i 8 = 0 ∧ ρ.i 9 = 0 ∧ ρ.i 10 = 0 ∧ ρ.i 11 = 0 ∧ ρ.i 12 = 0 ∧ ρ.i 13 = 0 ∧ ρ.i 14 = 0 ∧ ρ.i 15 = 0 ∧ ρ.i 16 = 0 ∧ ρ.i 17 = 0 ∧ ρ.i 18 = 0 ∧ ρ.i 19 = 0 ∧ ρ.i 20 = 0 ∧ ρ.i 21 = 0 ∧ ρ.i 22 = 0 := ⟨e.1.trans (congrArg (fun z => z.1.k0) hw), e.2.1.trans (congrArg (fun z => z.1.n0) hw), e.2.2.1.trans (congrArg (fun z => z.1.k1) hw), e.2.2.2.1.trans (congrArg (fun z => z.1.n1) hw), e.2.2.2.2.1.trans (congrArg (fun z => z.1.k2) hw), e.2.2.2.2.2.1.trans (congrArg (fun z => z.1.n2) hw), e.2.2.2.2.2.2.1.trans (congrArg (fun z => z.1.k3) hw), e.2.2.2.2.2.2.2.1.trans (congrArg (fun z => z.1.n3) hw), e.2.2.2.2.2.2.2.2.1.trans (congrArg (fun z => z.1.k4) hw), e.2.2.2.2.2.2.2.2.2.1.trans (congrArg (fun z => z.1.n4) hw), e.2.2.2.2.2.2.2.2.2.2.1.trans (congrArg (fun z => z.1.k5) hw), e.2.2.2.2.2.2.2.2.2.2.2.1.trans (congrArg (fun z => z.1.n5) hw), e.2.2.2.2.2.2.2.2.2.2.2.2.1.trans (congrArg (fun z => z.1.k6) hw), e.2.2.2.2.2.2.2.2.2.2.2.2.2.1.trans (congrArg (fun z => z.1.n6) hw), e.2.2.2.2.2.2.2.2.2.2.2.2.2.2.1.trans (congrArg (fun z => z.1.k7) hw), e.2.2.2.2.2.2.2.2.2.2.2.2.2.2.2.1.trans (congrArg (fun z => z.1.n7) hw), e.2.2.2.2.2.2.2.2.2.2.2.2.2.2.2.2.1.trans (congrArg (fun z => z.1.k8) hw), e.2.2.2.2.2.2.2.2.2.2.2.2.2.2.2.2.2.1.trans (congrArg (fun z => z.1.n8) hw), e.2.2.2.2.2.2.2.2.2.2.2.2.2.2.2.2.2.2.1.trans (congrArg (fun z => z.1.k9) hw), e.2.2.2.2.2.2.2.2.2.2.2.2.2.2.2.2.2.2.2.1.trans (congrArg (fun z => z.1.n9) hw), e.2.2.2.2.2.2.2.2.2.2.2.2.2.2.2.2.2.2.2.2.1.trans (congrArg (fun z => z.1.k10) hw), e.2.2.2.2.2.2.2.2.2.2.2.2.2.2.2.2.2.2.2.2.2.1.trans (congrArg (fun z => z.1.n10) hw), e.2.2.2.2.2.2.2.2.2.2.2.2.2.2.2.2.2.2.2.2.2.2.trans (congrArg (fun z => z.2) hw)⟩; (try simp only [e, Span.eta, Place.eta, P11.eta, spanAt_mk, spR_mk, kf_mk, nf_mk, -eq_self]); clear e
  refine ⟨fun c0 => ?_, fun c0 => ?_⟩
  refine ⟨fun c1 => ?_, fun c1 => ?_⟩
  refine ⟨fun c2 => ?_, fun c2 => ?_⟩
  refine ⟨fun c3 => ?_, fun c3 => ?_⟩
  refine ⟨fun c4 => ?_, fun c4 => ?_⟩
  · first | rfl | cases c4
  · first | rfl | cases c4
  · first | rfl | cases c3
  · first | rfl | cases c2
  · first | rfl | cases c1
  · first | rfl | cases c0
theorem sK_awakes {sp : Spec} {key : Nat} (hF : sp.F key = sF_awakes) (hP : sp.pre key = fun _ => True := by rfl) : SmOk Try.prog sp (sM_awakes key) :=
  fun_ok (s := sM_awakes key) hF hP (by kernel_rfl) tysok_AlL (smc (sK_arun rfl rfl) sm0) Try.func6 fn0 sR_awakes (.inl rfl) (fun  hp ρ g => sX_awakes ρ g)
end Go.Proofs.Ytoaffiooliclgaa
