/- Contracts of latheref10, by the symbolic run. -/
import Derived.Test.YtcfnglbcgkappaaSdF
import Derived.Test.YtcfnglbcgkappaaVrA
import Derived.Test.YtcfnglbcgkappaaProg
import Derived.Laws.Externs
set_option linter.unusedVariables false
set_option linter.unusedSimpArgs false
namespace Go.Proofs.Ytcfnglbcgkappaa
open Go.RowKit Go.ChangeShapes Go.WideShapes

def tys_SdG : List (Nat × TI) := [(2, ⟨false, 1, [.int .i64 (.lit 0)], [], none, some .i64, false, false, none, 8, false⟩),
 (3, ⟨false, 1, [.int .i64 (.lit 0)], [], none, some .i64, false, false, none, 8, false⟩),
 (5, ⟨false, 1, [.int .u8 (.lit 0)], [], none, some .u8, false, false, none, 1, false⟩),
 (22, ⟨false, 1, [.int .i8 (.lit 0)], [], none, some .i8, false, false, none, 1, false⟩),
 (23, ⟨false, 1, [.int .u64 (.lit 0)], [], none, some .u64, false, false, none, 8, false⟩),
 (25, ⟨true, 4, [.int .u64 (.lit 0), .int .u64 (.lit 0), .int .i64 (.lit 0), .int .i64 (.lit 0)], [(0, 23), (1, 23), (2, 2), (3, 2)], none, none, false, false, none, 32, false⟩),
 (27, ⟨true, 2, [.int .u64 (.lit 0), .int .u64 (.lit 0)], [(0, 23), (1, 23)], none, none, false, false, none, 16, false⟩),
 (29, ⟨true, 6, [.int .u64 (.lit 0), .int .u64 (.lit 0), .int .i64 (.lit 0), .int .i64 (.lit 0), .int .u64 (.lit 0), .int .u64 (.lit 0)], [(0, 25), (4, 27)], none, none, true, false, none, 48, false⟩),
 (31, ⟨true, 9, [.int .i8 (.lit 0), .int .u64 (.lit 0), .int .u64 (.lit 0), .int .i64 (.lit 0), .int .i64 (.lit 0), .int .u64 (.lit 0), .int .u64 (.lit 0), .int .i64 (.lit 0), .int .i64 (.lit 0)], [(0, 22), (1, 29), (7, 3), (8, 3)], none, none, true, false, none, 72, false⟩),
 (32, ⟨true, 99, [.int .i8 (.lit 0), .int .u64 (.lit 0), .int .u64 (.lit 0), .int .i64 (.lit 0), .int .i64 (.lit 0), .int .u64 (.lit 0), .int .u64 (.lit 0), .int .i64 (.lit 0), .int .i64 (.lit 0), .int .i8 (.lit 0), .int .u64 (.lit 0), .int .u64 (.lit 0), .int .i64 (.lit 0), .int .i64 (.lit 0), .int .u64 (.lit 0), .int .u64 (.lit 0), .int .i64 (.lit 0), .int .i64 (.lit 0), .int .i8 (.lit 0), .int .u64 (.lit 0), .int .u64 (.lit 0), .int .i64 (.lit 0), .int .i64 (.lit 0), .int .u64 (.lit 0), .int .u64 (.lit 0), .int .i64 (.lit 0), .int .i64 (.lit 0), .int .i8 (.lit 0), .int .u64 (.lit 0), .int .u64 (.lit 0), .int .i64 (.lit 0), .int .i64 (.lit 0), .int .u64 (.lit 0), .int .u64 (.lit 0), .int .i64 (.lit 0), .int .i64 (.lit 0), .int .i8 (.lit 0), .int .u64 (.lit 0), .int .u64 (.lit 0), .int .i64 (.lit 0), .int .i64 (.lit 0), .int .u64 (.lit 0), .int .u64 (.lit 0), .int .i64 (.lit 0), .int .i64 (.lit 0), .int .i8 (.lit 0), .int .u64 (.lit 0), .int .u64 (.lit 0), .int .i64 (.lit 0), .int .i64 (.lit 0), .int .u64 (.lit 0), .int .u64 (.lit 0), .int .i64 (.lit 0), .int .i64 (.lit 0), .int .i8 (.lit 0), .int .u64 (.lit 0), .int .u64 (.lit 0), .int .i64 (.lit 0), .int .i64 (.lit 0), .int .u64 (.lit 0), .int .u64 (.lit 0), .int .i64 (.lit 0), .int .i64 (.lit 0), .int .i8 (.lit 0), .int .u64 (.lit 0), .int .u64 (.lit 0), .int .i64 (.lit 0), .int .i64 (.lit 0), .int .u64 (.lit 0), .int .u64 (.lit 0), .int .i64 (.lit 0), .int .i64 (.lit 0), .int .i8 (.lit 0), .int .u64 (.lit 0), .int .u64 (.lit 0), .int .i64 (.lit 0), .int .i64 (.lit 0), .int .u64 (.lit 0), .int .u64 (.lit 0), .int .i64 (.lit 0), .int .i64 (.lit 0), .int .i8 (.lit 0), .int .u64 (.lit 0), .int .u64 (.lit 0), .int .i64 (.lit 0), .int .i64 (.lit 0), .int .u64 (.lit 0), .int .u64 (.lit 0), .int .i64 (.lit 0), .int .i64 (.lit 0), .int .i8 (.lit 0), .int .u64 (.lit 0), .int .u64 (.lit 0), .int .i64 (.lit 0), .int .i64 (.lit 0), .int .u64 (.lit 0), .int .u64 (.lit 0), .int .i64 (.lit 0), .int .i64 (.lit 0)], [], some (11, 31), none, false, false, none, 792, false⟩),
 (33, ⟨true, 72, [.int .i8 (.lit 0), .int .u64 (.lit 0), .int .u64 (.lit 0), .int .i64 (.lit 0), .int .i64 (.lit 0), .int .u64 (.lit 0), .int .u64 (.lit 0), .int .i64 (.lit 0), .int .i64 (.lit 0), .int .i8 (.lit 0), .int .u64 (.lit 0), .int .u64 (.lit 0), .int .i64 (.lit 0), .int .i64 (.lit 0), .int .u64 (.lit 0), .int .u64 (.lit 0), .int .i64 (.lit 0), .int .i64 (.lit 0), .int .i8 (.lit 0), .int .u64 (.lit 0), .int .u64 (.lit 0), .int .i64 (.lit 0), .int .i64 (.lit 0), .int .u64 (.lit 0), .int .u64 (.lit 0), .int .i64 (.lit 0), .int .i64 (.lit 0), .int .i8 (.lit 0), .int .u64 (.lit 0), .int .u64 (.lit 0), .int .i64 (.lit 0), .int .i64 (.lit 0), .int .u64 (.lit 0), .int .u64 (.lit 0), .int .i64 (.lit 0), .int .i64 (.lit 0), .int .i8 (.lit 0), .int .u64 (.lit 0), .int .u64 (.lit 0), .int .i64 (.lit 0), .int .i64 (.lit 0), .int .u64 (.lit 0), .int .u64 (.lit 0), .int .i64 (.lit 0), .int .i64 (.lit 0), .int .i8 (.lit 0), .int .u64 (.lit 0), .int .u64 (.lit 0), .int .i64 (.lit 0), .int .i64 (.lit 0), .int .u64 (.lit 0), .int .u64 (.lit 0), .int .i64 (.lit 0), .int .i64 (.lit 0), .int .i8 (.lit 0), .int .u64 (.lit 0), .int .u64 (.lit 0), .int .i64 (.lit 0), .int .i64 (.lit 0), .int .u64 (.lit 0), .int .u64 (.lit 0), .int .i64 (.lit 0), .int .i64 (.lit 0), .int .i8 (.lit 0), .int .u64 (.lit 0), .int .u64 (.lit 0), .int .i64 (.lit 0), .int .i64 (.lit 0), .int .u64 (.lit 0), .int .u64 (.lit 0), .int .i64 (.lit 0), .int .i64 (.lit 0)], [], some (8, 31), none, false, false, none, 576, false⟩),
 (35, ⟨true, 171, [.int .i8 (.lit 0), .int .u64 (.lit 0), .int .u64 (.lit 0), .int .i64 (.lit 0), .int .i64 (.lit 0), .int .u64 (.lit 0), .int .u64 (.lit 0), .int .i64 (.lit 0), .int .i64 (.lit 0), .int .i8 (.lit 0), .int .u64 (.lit 0), .int .u64 (.lit 0), .int .i64 (.lit 0), .int .i64 (.lit 0), .int .u64 (.lit 0), .int .u64 (.lit 0), .int .i64 (.lit 0), .int .i64 (.lit 0), .int .i8 (.lit 0), .int .u64 (.lit 0), .int .u64 (.lit 0), .int .i64 (.lit 0), .int .i64 (.lit 0), .int .u64 (.lit 0), .int .u64 (.lit 0), .int .i64 (.lit 0), .int .i64 (.lit 0), .int .i8 (.lit 0), .int .u64 (.lit 0), .int .u64 (.lit 0), .int .i64 (.lit 0), .int .i64 (.lit 0), .int .u64 (.lit 0), .int .u64 (.lit 0), .int .i64 (.lit 0), .int .i64 (.lit 0), .int .i8 (.lit 0), .int .u64 (.lit 0), .int .u64 (.lit 0), .int .i64 (.lit 0), .int .i64 (.lit 0), .int .u64 (.lit 0), .int .u64 (.lit 0), .int .i64 (.lit 0), .int .i64 (.lit 0), .int .i8 (.lit 0), .int .u64 (.lit 0), .int .u64 (.lit 0), .int .i64 (.lit 0), .int .i64 (.lit 0), .int .u64 (.lit 0), .int .u64 (.lit 0), .int .i64 (.lit 0), .int .i64 (.lit 0), .int .i8 (.lit 0), .int .u64 (.lit 0), .int .u64 (.lit 0), .int .i64 (.lit 0), .int .i64 (.lit 0), .int .u64 (.lit 0), .int .u64 (.lit 0), .int .i64 (.lit 0), .int .i64 (.lit 0), .int .i8 (.lit 0), .int .u64 (.lit 0), .int .u64 (.lit 0), .int .i64 (.lit 0), .int .i64 (.lit 0), .int .u64 (.lit 0), .int .u64 (.lit 0), .int .i64 (.lit 0), .int .i64 (.lit 0), .int .i8 (.lit 0), .int .u64 (.lit 0), .int .u64 (.lit 0), .int .i64 (.lit 0), .int .i64 (.lit 0), .int .u64 (.lit 0), .int .u64 (.lit 0), .int .i64 (.lit 0), .int .i64 (.lit 0), .int .i8 (.lit 0), .int .u64 (.lit 0), .int .u64 (.lit 0), .int .i64 (.lit 0), .int .i64 (.lit 0), .int .u64 (.lit 0), .int .u64 (.lit 0), .int .i64 (.lit 0), .int .i64 (.lit 0), .int .i8 (.lit 0), .int .u64 (.lit 0), .int .u64 (.lit 0), .int .i64 (.lit 0), .int .i64 (.lit 0), .int .u64 (.lit 0), .int .u64 (.lit 0), .int .i64 (.lit 0), .int .i64 (.lit 0), .int .i8 (.lit 0), .int .u64 (.lit 0), .int .u64 (.lit 0), .int .i64 (.lit 0), .int .i64 (.lit 0), .int .u64 (.lit 0), .int .u64 (.lit 0), .int .i64 (.lit 0), .int .i64 (.lit 0), .int .i8 (.lit 0), .int .u64 (.lit 0), .int .u64 (.lit 0), .int .i64 (.lit 0), .int .i64 (.lit 0), .int .u64 (.lit 0), .int .u64 (.lit 0), .int .i64 (.lit 0), .int .i64 (.lit 0), .int .i8 (.lit 0), .int .u64 (.lit 0), .int .u64 (.lit 0), .int .i64 (.lit 0), .int .i64 (.lit 0), .int .u64 (.lit 0), .int .u64 (.lit 0), .int .i64 (.lit 0), .int .i64 (.lit 0), .int .i8 (.lit 0), .int .u64 (.lit 0), .int .u64 (.lit 0), .int .i64 (.lit 0), .int .i64 (.lit 0), .int .u64 (.lit 0), .int .u64 (.lit 0), .int .i64 (.lit 0), .int .i64 (.lit 0), .int .i8 (.lit 0), .int .u64 (.lit 0), .int .u64 (.lit 0), .int .i64 (.lit 0), .int .i64 (.lit 0), .int .u64 (.lit 0), .int .u64 (.lit 0), .int .i64 (.lit 0), .int .i64 (.lit 0), .int .i8 (.lit 0), .int .u64 (.lit 0), .int .u64 (.lit 0), .int .i64 (.lit 0), .int .i64 (.lit 0), .int .u64 (.lit 0), .int .u64 (.lit 0), .int .i64 (.lit 0), .int .i64 (.lit 0), .int .i8 (.lit 0), .int .u64 (.lit 0), .int .u64 (.lit 0), .int .i64 (.lit 0), .int .i64 (.lit 0), .int .u64 (.lit 0), .int .u64 (.lit 0), .int .i64 (.lit 0), .int .i64 (.lit 0), .int .i8 (.lit 0), .int .u64 (.lit 0), .int .u64 (.lit 0), .int .i64 (.lit 0), .int .i64 (.lit 0), .int .u64 (.lit 0), .int .u64 (.lit 0), .int .i64 (.lit 0), .int .i64 (.lit 0)], [(0, 32), (99, 33)], none, none, false, false, none, 1368, false⟩),
 (41, ⟨true, 11, [.int .u64 (.lit 0), .int .u64 (.lit 0), .int .u64 (.lit 0), .int .u64 (.lit 0), .int .u64 (.lit 0), .int .u64 (.lit 0), .int .u64 (.lit 0), .int .u64 (.lit 0), .int .u64 (.lit 0), .int .u64 (.lit 0), .int .u64 (.lit 0)], [], some (11, 23), none, false, false, none, 88, false⟩),
 (42, ⟨true, 64, [.int .u8 (.lit 0), .int .u8 (.lit 0), .int .u8 (.lit 0), .int .u8 (.lit 0), .int .u8 (.lit 0), .int .u8 (.lit 0), .int .u8 (.lit 0), .int .u8 (.lit 0), .int .u8 (.lit 0), .int .u8 (.lit 0), .int .u8 (.lit 0), .int .u8 (.lit 0), .int .u8 (.lit 0), .int .u8 (.lit 0), .int .u8 (.lit 0), .int .u8 (.lit 0), .int .u8 (.lit 0), .int .u8 (.lit 0), .int .u8 (.lit 0), .int .u8 (.lit 0), .int .u8 (.lit 0), .int .u8 (.lit 0), .int .u8 (.lit 0), .int .u8 (.lit 0), .int .u8 (.lit 0), .int .u8 (.lit 0), .int .u8 (.lit 0), .int .u8 (.lit 0), .int .u8 (.lit 0), .int .u8 (.lit 0), .int .u8 (.lit 0), .int .u8 (.lit 0), .int .u8 (.lit 0), .int .u8 (.lit 0), .int .u8 (.lit 0), .int .u8 (.lit 0), .int .u8 (.lit 0), .int .u8 (.lit 0), .int .u8 (.lit 0), .int .u8 (.lit 0), .int .u8 (.lit 0), .int .u8 (.lit 0), .int .u8 (.lit 0), .int .u8 (.lit 0), .int .u8 (.lit 0), .int .u8 (.lit 0), .int .u8 (.lit 0), .int .u8 (.lit 0), .int .u8 (.lit 0), .int .u8 (.lit 0), .int .u8 (.lit 0), .int .u8 (.lit 0), .int .u8 (.lit 0), .int .u8 (.lit 0), .int .u8 (.lit 0), .int .u8 (.lit 0), .int .u8 (.lit 0), .int .u8 (.lit 0), .int .u8 (.lit 0), .int .u8 (.lit 0), .int .u8 (.lit 0), .int .u8 (.lit 0), .int .u8 (.lit 0), .int .u8 (.lit 0)], [], some (64, 5), none, false, false, none, 64, false⟩),
 (44, ⟨true, 76, [.int .u64 (.lit 0), .int .u64 (.lit 0), .int .u64 (.lit 0), .int .u64 (.lit 0), .int .u64 (.lit 0), .int .u64 (.lit 0), .int .u64 (.lit 0), .int .u64 (.lit 0), .int .u64 (.lit 0), .int .u64 (.lit 0), .int .u64 (.lit 0), .int .i64 (.lit 0), .int .u8 (.lit 0), .int .u8 (.lit 0), .int .u8 (.lit 0), .int .u8 (.lit 0), .int .u8 (.lit 0), .int .u8 (.lit 0), .int .u8 (.lit 0), .int .u8 (.lit 0), .int .u8 (.lit 0), .int .u8 (.lit 0), .int .u8 (.lit 0), .int .u8 (.lit 0), .int .u8 (.lit 0), .int .u8 (.lit 0), .int .u8 (.lit 0), .int .u8 (.lit 0), .int .u8 (.lit 0), .int .u8 (.lit 0), .int .u8 (.lit 0), .int .u8 (.lit 0), .int .u8 (.lit 0), .int .u8 (.lit 0), .int .u8 (.lit 0), .int .u8 (.lit 0), .int .u8 (.lit 0), .int .u8 (.lit 0), .int .u8 (.lit 0), .int .u8 (.lit 0), .int .u8 (.lit 0), .int .u8 (.lit 0), .int .u8 (.lit 0), .int .u8 (.lit 0), .int .u8 (.lit 0), .int .u8 (.lit 0), .int .u8 (.lit 0), .int .u8 (.lit 0), .int .u8 (.lit 0), .int .u8 (.lit 0), .int .u8 (.lit 0), .int .u8 (.lit 0), .int .u8 (.lit 0), .int .u8 (.lit 0), .int .u8 (.lit 0), .int .u8 (.lit 0), .int .u8 (.lit 0), .int .u8 (.lit 0), .int .u8 (.lit 0), .int .u8 (.lit 0), .int .u8 (.lit 0), .int .u8 (.lit 0), .int .u8 (.lit 0), .int .u8 (.lit 0), .int .u8 (.lit 0), .int .u8 (.lit 0), .int .u8 (.lit 0), .int .u8 (.lit 0), .int .u8 (.lit 0), .int .u8 (.lit 0), .int .u8 (.lit 0), .int .u8 (.lit 0), .int .u8 (.lit 0), .int .u8 (.lit 0), .int .u8 (.lit 0), .int .u8 (.lit 0)], [(0, 41), (11, 3), (12, 42)], none, none, false, false, none, 160, false⟩)]
set_option maxRecDepth 100000 in
theorem tysck_SdG : (tys_SdG.all fun p => ckTI Try.prog p.1 p.2) = true := by kernel_rfl
theorem tyseq_SdG : (tys_SdG.all fun p => !p.2.eqok || ((Nat.beq p.1 29 && kindsC p.2.zero z_Sc) || (Nat.beq p.1 31 && kindsC p.2.zero z_Ty))) = true := by kernel_rfl
theorem tysok_SdG : ∀ t i, (t, i) ∈ tys_SdG → TIok Try.prog t i := by
  intro t i h
  have h1 := List.all_eq_true.1 tyseq_SdG (t, i) h
  have h2 : i.eqok = true → (t = 29 ∧ kindsC i.zero z_Sc = true) ∨ (t = 31 ∧ kindsC i.zero z_Ty = true) := by
    intro he
    simp only [he, Bool.not_true, Bool.false_or, Bool.or_eq_true, Bool.and_eq_true] at h1
    rcases h1 with h1 | h1
    · exact .inl ⟨Nat.eq_of_beq_eq_true h1.1, h1.2⟩
    · exact .inr (⟨Nat.eq_of_beq_eq_true h1.1, h1.2⟩)
  refine TIok_of (all_at (f := ckTI Try.prog) tysck_SdG h) (fun he => ?_) (fun he => ?_)
  · rcases h2 he with ⟨rfl, hs⟩ | ⟨rfl, hs⟩
    · exact fun vs us hv hu => eq_Sc vs us (kindsV_of hs hv) (kindsV_of hs hu)
    · exact fun vs us hv hu => eq_Ty vs us (kindsV_of hs hv) (kindsV_of hs hu)
  · rcases h2 he with ⟨rfl, hs⟩ | ⟨rfl, hs⟩
    · exact grd_Sc
    · exact grd_Ty
def sM_yscal (key : Nat) : Sm := ⟨25, key, [], [.agg kTy], false⟩
def sF_yscal : List Dt → List Dt
  | [] => d_Ty (tscal) ([])
  | _ => []
def sT_yscal : Tr :=
(.call 0 (kSc) .nil 0
(.leaf (.cons (.lit 1) (.vs 0 6 (.cons (.lit 0) (.cons (.lit 0) .nil))))))
def sP_yscal : Spec := ⟨fun k => match k with | 0 => sF_wall | _ => fun _ => [], fun k => match k with | _ => fun _ => True⟩
set_option maxRecDepth 100000 in
theorem sR_yscal : treeIs tys_SdG [sM_wall 0] [] [] [] 200 Try.f25 [] [.agg kTy] false [] sT_yscal := ⟨by kernel_rfl, by kernel_rfl, by kernel_rfl⟩
set_option maxRecDepth 100000 in
set_option maxHeartbeats 8000000 in
theorem sX_yscal  (ρ : Env) (g : varsD ρ 0 [] = []) : sT_yscal.asks sP_yscal (fun ρ e => e.D ρ = sF_yscal []) ρ fun _ _ => False := by
  simp only [sT_yscal, sP_yscal, d_Ty, kSc, sF_wall, sF_yscal, Tr.asks, upd_same, okDs, okD, eqs, E.I, E.B, E.L, E.R, E.D, E.vs, dI, dB, dL, varD, varsD, List.getElem?_cons_zero, List.getElem?_cons_succ, List.cons_append, List.nil_append, Nat.zero_add, Nat.add_zero, Nat.reduceAdd, and_true, true_and, b2i_one, -eq_self, etasX]
  intro e; (try simp only [e, etasX, -eq_self]); clear e
  · rfl
theorem sK_yscal {sp : Spec} {key : Nat} (hF : sp.F key = sF_yscal) (hP : sp.pre key = fun _ => True := by rfl) : SmOk Try.prog sp (sM_yscal key) :=
  fun_ok (s := sM_yscal key) hF hP (by kernel_rfl) tysok_SdG (smc (sK_wall rfl) sm0) Try.func25 fn0 sR_yscal (.inl rfl) (fun  hp ρ g => sX_yscal ρ g)
def sM_ytok (key : Nat) : Sm := ⟨27, key, [.agg kTy], [.one .bool], false⟩
def sV_ytok (t : Ty) : List Dt := [.z (b2i (tok t))]
def sF_ytok : List Dt → List Dt
  | [.z x0, .z x1, .z x2, .z x3, .z x4, .z x5, .z x6, .z x7, .z x8] => sV_ytok ⟨x0, x1, x2, x3, x4, x5, x6, x7, x8⟩
  | _ => []
def sT_ytok : Tr :=
(.br (.eq (.var 0) (.lit 0))
(.leaf (.consb (.and (.eq (.var 0) (.lit 0)) (.and (.eq (.var 1) (.lit 0)) (.and (.eq (.var 2) (.lit 0)) (.and (.eq (.var 3) (.lit 0)) (.and (.eq (.var 4) (.lit 0)) (.and (.eq (.var 5) (.lit 0)) (.and (.eq (.var 6) (.lit 0)) (.and (.eq (.var 7) (.lit 0)) (.and (.eq (.var 8) (.lit 0)) (.tt true)))))))))) .nil))
(.br (.eq (.var 0) (.lit 1))
(.call 0 ([.bool]) (.vs 1 6 .nil) 9
(.br (.bvar 9)
(.br (.eq (.var 7) (.lit 0))
(.leaf (.consb (.eq (.var 8) (.lit 0)) .nil))
(.leaf (.consb (.tt false) .nil)))
(.leaf (.consb (.tt false) .nil))))
(.br (.eq (.var 0) (.lit 2))
(.br (.lt (.var 8) (.var 7))
(.leaf (.consb (.tt false) .nil))
(.br (.lt (.var 7) (.lit (-1048576)))
(.leaf (.consb (.tt false) .nil))
(.br (.lt (.lit 1048576) (.var 8))
(.leaf (.consb (.tt false) .nil))
(.leaf (.consb (.and (.eq (.var 1) (.lit 0)) (.and (.eq (.var 2) (.lit 0)) (.and (.eq (.var 3) (.lit 0)) (.and (.eq (.var 4) (.lit 0)) (.and (.eq (.var 5) (.lit 0)) (.and (.eq (.var 6) (.lit 0)) (.tt true))))))) .nil)))))
(.br (.eq (.var 0) (.lit 3))
(.br (.lt (.var 8) (.var 7))
(.leaf (.consb (.tt false) .nil))
(.br (.lt (.var 7) (.lit (-1048576)))
(.leaf (.consb (.tt false) .nil))
(.br (.lt (.lit 1048576) (.var 8))
(.leaf (.consb (.tt false) .nil))
(.leaf (.consb (.and (.eq (.var 1) (.lit 0)) (.and (.eq (.var 2) (.lit 0)) (.and (.eq (.var 3) (.lit 0)) (.and (.eq (.var 4) (.lit 0)) (.and (.eq (.var 5) (.lit 0)) (.and (.eq (.var 6) (.lit 0)) (.tt true))))))) .nil)))))
(.leaf (.consb (.tt false) .nil))))))
def sP_ytok : Spec := ⟨fun k => match k with | 0 => sF_wmay | _ => fun _ => [], fun k => match k with | _ => fun _ => True⟩
set_option maxRecDepth 100000 in
theorem sR_ytok : treeIs tys_SdG [sM_wmay 0] [] [] [] 200 Try.f27 [.agg kTy] [.one .bool] false (v_Ty ([])) sT_ytok := ⟨by kernel_rfl, by kernel_rfl, by kernel_rfl⟩
set_option maxRecDepth 100000 in
set_option maxHeartbeats 8000000 in
theorem sX_ytok (t : Ty) (ht : Ty.ok t) (ρ : Env) (g : varsD ρ 0 (v_Ty ([])) = (d_Ty t ([]))) : sT_ytok.asks sP_ytok (fun ρ e => e.D ρ = sF_ytok (d_Ty t ([]))) ρ fun _ _ => False := by
  simp only [d_Ty, v_Ty, varsD, varD, List.cons.injEq, Dt.z.injEq, Dt.l.injEq, b2i_eq_iff, Nat.reduceAdd, and_true] at g
  simp only [sT_ytok, sP_ytok, d_Ty, sF_wmay, sV_wmay, sF_ytok, sV_ytok, Tr.asks, upd_same, okDs, okD, eqs, E.I, E.B, E.L, E.R, E.D, E.vs, dI, dB, dL, varD, varsD, List.getElem?_cons_zero, List.getElem?_cons_succ, List.cons_append, List.nil_append, Nat.zero_add, Nat.add_zero, Nat.reduceAdd, and_true, true_and, b2i_one, -eq_self, etasX, g]
  refine ⟨fun c0 => ?_, fun c0 => ?_⟩
  · (unfold tok; simp_all [tbare, Bool.and_assoc] <;> first | (intros; omega) | (rw [Bool.eq_iff_iff]; simp; done))
  refine ⟨fun c1 => ?_, fun c1 => ?_⟩
  intro e; (try simp only [e, etasX, -eq_self]); clear e
  refine ⟨fun c2 => ?_, fun c2 => ?_⟩
  refine ⟨fun c3 => ?_, fun c3 => ?_⟩
  · (unfold tok; simp_all [tbare, Bool.and_assoc] <;> first | (intros; omega) | (rw [Bool.eq_iff_iff]; simp; done))
  · (unfold tok; simp_all [tbare, Bool.and_assoc] <;> first | (intros; omega) | (rw [Bool.eq_iff_iff]; simp; done))
  · (unfold tok; simp_all [tbare, Bool.and_assoc] <;> first | (intros; omega) | (rw [Bool.eq_iff_iff]; simp; done))
  refine ⟨fun c4 => ?_, fun c4 => ?_⟩
  refine ⟨fun c5 => ?_, fun c5 => ?_⟩
  · (unfold tok; simp_all [tbare, Bool.and_assoc] <;> first | (intros; omega) | (rw [Bool.eq_iff_iff]; simp; done))
  refine ⟨fun c6 => ?_, fun c6 => ?_⟩
  · (unfold tok; simp_all [tbare, Bool.and_assoc] <;> first | (intros; omega) | (rw [Bool.eq_iff_iff]; simp; done))
  refine ⟨fun c7 => ?_, fun c7 => ?_⟩
  · (unfold tok; simp_all [tbare, Bool.and_assoc] <;> first | (intros; omega) | (rw [Bool.eq_iff_iff]; simp; done))
  · (unfold tok; simp_all [tbare, Bool.and_assoc] <;> first | (intros; omega) | (rw [Bool.eq_iff_iff]; simp; done))
  refine ⟨fun c8 => ?_, fun c8 => ?_⟩
  refine ⟨fun c9 => ?_, fun c9 => ?_⟩
  · (unfold tok; simp_all [tbare, Bool.and_assoc] <;> first | (intros; omega) | (rw [Bool.eq_iff_iff]; simp; done))
  refine ⟨fun c10 => ?_, fun c10 => ?_⟩
  · (unfold tok; simp_all [tbare, Bool.and_assoc] <;> first | (intros; omega) | (rw [Bool.eq_iff_iff]; simp; done))
  refine ⟨fun c11 => ?_, fun c11 => ?_⟩
  · (unfold tok; simp_all [tbare, Bool.and_assoc] <;> first | (intros; omega) | (rw [Bool.eq_iff_iff]; simp; done))
  · (unfold tok; simp_all [tbare, Bool.and_assoc] <;> first | (intros; omega) | (rw [Bool.eq_iff_iff]; simp; done))
  · (unfold tok; simp_all [tbare, Bool.and_assoc] <;> first | (intros; omega) | (rw [Bool.eq_iff_iff]; simp; done))
theorem sK_ytok {sp : Spec} {key : Nat} (hF : sp.F key = sF_ytok) (hP : sp.pre key = fun _ => True := by rfl) : SmOk Try.prog sp (sM_ytok key) :=
  fun_ok (s := sM_ytok key) hF hP (by kernel_rfl) tysok_SdG (smc (sK_wmay rfl) sm0) Try.func27 fn0 sR_ytok (.inl rfl) (for_Ty fun q0 gq0 => fun  hp ρ g => sX_ytok q0 gq0 ρ g)
def sM_ymay (key : Nat) : Sm := ⟨15, key, [.agg kSta], [.one .bool], false⟩
def sV_ymay (s : Sta) : List Dt := [.z (b2i (smay s))]
def sF_ymay : List Dt → List Dt := rd_Sta fun s => fun _ => sV_ymay s
def sT_ymay : Tr :=
(.call 0 ([.bool]) (.vs 0 9 .nil) 171
(.br (.bvar 171)
(.call 0 ([.bool]) (.vs 9 9 .nil) 172
(.br (.bvar 172)
(.call 0 ([.bool]) (.vs 18 9 .nil) 173
(.br (.bvar 173)
(.call 0 ([.bool]) (.vs 27 9 .nil) 174
(.br (.bvar 174)
(.call 0 ([.bool]) (.vs 36 9 .nil) 175
(.br (.bvar 175)
(.call 0 ([.bool]) (.vs 45 9 .nil) 176
(.br (.bvar 176)
(.call 0 ([.bool]) (.vs 54 9 .nil) 177
(.br (.bvar 177)
(.call 0 ([.bool]) (.vs 63 9 .nil) 178
(.br (.bvar 178)
(.call 0 ([.bool]) (.vs 72 9 .nil) 179
(.br (.bvar 179)
(.call 0 ([.bool]) (.vs 81 9 .nil) 180
(.br (.bvar 180)
(.call 0 ([.bool]) (.vs 90 9 .nil) 181
(.br (.bvar 181)
(.call 0 ([.bool]) (.vs 99 9 .nil) 182
(.br (.bvar 182)
(.br (.eq (.var 99) (.lit 0))
(.leaf (.consb (.tt false) .nil))
(.call 0 ([.bool]) (.vs 108 9 .nil) 183
(.br (.bvar 183)
(.br (.eq (.var 108) (.lit 0))
(.leaf (.consb (.tt false) .nil))
(.call 0 ([.bool]) (.vs 117 9 .nil) 184
(.br (.bvar 184)
(.br (.eq (.var 117) (.lit 0))
(.leaf (.consb (.tt false) .nil))
(.call 0 ([.bool]) (.vs 126 9 .nil) 185
(.br (.bvar 185)
(.br (.eq (.var 126) (.lit 0))
(.leaf (.consb (.tt false) .nil))
(.call 0 ([.bool]) (.vs 135 9 .nil) 186
(.br (.bvar 186)
(.br (.eq (.var 135) (.lit 0))
(.leaf (.consb (.tt false) .nil))
(.call 0 ([.bool]) (.vs 144 9 .nil) 187
(.br (.bvar 187)
(.br (.eq (.var 144) (.lit 0))
(.leaf (.consb (.tt false) .nil))
(.call 0 ([.bool]) (.vs 153 9 .nil) 188
(.br (.bvar 188)
(.br (.eq (.var 153) (.lit 0))
(.leaf (.consb (.tt false) .nil))
(.call 0 ([.bool]) (.vs 162 9 .nil) 189
(.br (.bvar 189)
(.br (.eq (.var 162) (.lit 0))
(.leaf (.consb (.tt false) .nil))
(.leaf (.consb (.tt true) .nil)))
(.leaf (.consb (.tt false) .nil)))))
(.leaf (.consb (.tt false) .nil)))))
(.leaf (.consb (.tt false) .nil)))))
(.leaf (.consb (.tt false) .nil)))))
(.leaf (.consb (.tt false) .nil)))))
(.leaf (.consb (.tt false) .nil)))))
(.leaf (.consb (.tt false) .nil)))))
(.leaf (.consb (.tt false) .nil))))
(.leaf (.consb (.tt false) .nil))))
(.leaf (.consb (.tt false) .nil))))
(.leaf (.consb (.tt false) .nil))))
(.leaf (.consb (.tt false) .nil))))
(.leaf (.consb (.tt false) .nil))))
(.leaf (.consb (.tt false) .nil))))
(.leaf (.consb (.tt false) .nil))))
(.leaf (.consb (.tt false) .nil))))
(.leaf (.consb (.tt false) .nil))))
(.leaf (.consb (.tt false) .nil))))
(.leaf (.consb (.tt false) .nil))))
def sP_ymay : Spec := ⟨fun k => match k with | 0 => sF_ytok | _ => fun _ => [], fun k => match k with | _ => fun _ => True⟩
set_option maxRecDepth 100000 in
theorem sR_ymay : treeIs tys_SdG [sM_ytok 0] [] [] [] 200 Try.f15 [.agg kSta] [.one .bool] false (v_Sta ([])) sT_ymay := ⟨by kernel_rfl, by kernel_rfl, by kernel_rfl⟩
set_option maxRecDepth 100000 in
set_option maxHeartbeats 8000000 in
theorem sX_ymay (s : Sta) (hs : Sta.ok s) (ρ : Env) (g : varsD ρ 0 (v_Sta ([])) = (d_Sta s ([]))) : sT_ymay.asks sP_ymay (fun ρ e => e.D ρ = sF_ymay (d_Sta s ([]))) ρ fun _ _ => False := by
  simp only [sF_ymay, rd_Sta_d, rd_Ty_d, rdZ, rdB]
  simp only [d_Sta, d_Ty, v_Sta, v_Ty, varsD, varD, List.cons.injEq, Dt.z.injEq, Dt.l.injEq, b2i_eq_iff, Nat.reduceAdd, and_true] at g
  simp (maxSteps := 10000000) only [sT_ymay, sP_ymay, d_Sta, d_Ty, rd_Sta, rd_Ty, sF_ytok, sV_ytok, sF_ymay, sV_ymay, Tr.asks, upd_same, okDs, okD, eqs, E.I, E.B, E.L, E.R, E.D, E.vs, dI, dB, dL, varD, varsD, List.getElem?_cons_zero, List.getElem?_cons_succ, List.cons_append, List.nil_append, Nat.zero_add, Nat.add_zero, Nat.reduceAdd, and_true, true_and, b2i_one, -eq_self, etasX, g]
  intro e; (try simp only [e, etasX, -eq_self]); clear e
  refine ⟨fun c0 => ?_, fun c0 => ?_⟩
  intro e; (try simp only [e, etasX, -eq_self]); clear e
  refine ⟨fun c1 => ?_, fun c1 => ?_⟩
  intro e; (try simp only [e, etasX, -eq_self]); clear e
  refine ⟨fun c2 => ?_, fun c2 => ?_⟩
  intro e; (try simp only [e, etasX, -eq_self]); clear e
  refine ⟨fun c3 => ?_, fun c3 => ?_⟩
  intro e; (try simp only [e, etasX, -eq_self]); clear e
  refine ⟨fun c4 => ?_, fun c4 => ?_⟩
  intro e; (try simp only [e, etasX, -eq_self]); clear e
  refine ⟨fun c5 => ?_, fun c5 => ?_⟩
  intro e; (try simp only [e, etasX, -eq_self]); clear e
  refine ⟨fun c6 => ?_, fun c6 => ?_⟩
  intro e; (try simp only [e, etasX, -eq_self]); clear e
  refine ⟨fun c7 => ?_, fun c7 => ?_⟩
  intro e; (try simp only [e, etasX, -eq_self]); clear e
  refine ⟨fun c8 => ?_, fun c8 => ?_⟩
  intro e; (try simp only [e, etasX, -eq_self]); clear e
  refine ⟨fun c9 => ?_, fun c9 => ?_⟩
  intro e; (try simp only [e, etasX, -eq_self]); clear e
  refine ⟨fun c10 => ?_, fun c10 => ?_⟩
  intro e; (try simp only [e, etasX, -eq_self]); clear e
  refine ⟨fun c11 => ?_, fun c11 => ?_⟩
  refine ⟨fun c12 => ?_, fun c12 => ?_⟩
  · (unfold smay tset; simp_all)
  intro e; (try simp only [e, etasX, -eq_self]); clear e
  refine ⟨fun c13 => ?_, fun c13 => ?_⟩
  refine ⟨fun c14 => ?_, fun c14 => ?_⟩
  · (unfold smay tset; simp_all)
  intro e; (try simp only [e, etasX, -eq_self]); clear e
  refine ⟨fun c15 => ?_, fun c15 => ?_⟩
  refine ⟨fun c16 => ?_, fun c16 => ?_⟩
  · (unfold smay tset; simp_all)
  intro e; (try simp only [e, etasX, -eq_self]); clear e
  refine ⟨fun c17 => ?_, fun c17 => ?_⟩
  refine ⟨fun c18 => ?_, fun c18 => ?_⟩
  · (unfold smay tset; simp_all)
  intro e; (try simp only [e, etasX, -eq_self]); clear e
  refine ⟨fun c19 => ?_, fun c19 => ?_⟩
  refine ⟨fun c20 => ?_, fun c20 => ?_⟩
  · (unfold smay tset; simp_all)
  intro e; (try simp only [e, etasX, -eq_self]); clear e
  refine ⟨fun c21 => ?_, fun c21 => ?_⟩
  refine ⟨fun c22 => ?_, fun c22 => ?_⟩
  · (unfold smay tset; simp_all)
  intro e; (try simp only [e, etasX, -eq_self]); clear e
  refine ⟨fun c23 => ?_, fun c23 => ?_⟩
  refine ⟨fun c24 => ?_, fun c24 => ?_⟩
  · (unfold smay tset; simp_all)
  intro e; (try simp only [e, etasX, -eq_self]); clear e
  refine ⟨fun c25 => ?_, fun c25 => ?_⟩
  refine ⟨fun c26 => ?_, fun c26 => ?_⟩
  · (unfold smay tset; simp_all)
  · (unfold smay tset; simp_all)
  · (unfold smay tset; simp_all)
  · (unfold smay tset; simp_all)
  · (unfold smay tset; simp_all)
  · (unfold smay tset; simp_all)
  · (unfold smay tset; simp_all)
  · (unfold smay tset; simp_all)
  · (unfold smay tset; simp_all)
  · (unfold smay tset; simp_all)
  · (unfold smay tset; simp_all)
  · (unfold smay tset; simp_all)
  · (unfold smay tset; simp_all)
  · (unfold smay tset; simp_all)
  · (unfold smay tset; simp_all)
  · (unfold smay tset; simp_all)
  · (unfold smay tset; simp_all)
  · (unfold smay tset; simp_all)
  · (unfold smay tset; simp_all)
  · (unfold smay tset; simp_all)
  · (unfold smay tset; simp_all)
theorem sK_ymay {sp : Spec} {key : Nat} (hF : sp.F key = sF_ymay) (hP : sp.pre key = fun _ => True := by rfl) : SmOk Try.prog sp (sM_ymay key) :=
  fun_ok (s := sM_ymay key) hF hP (by kernel_rfl) tysok_SdG (smc (sK_ytok rfl) sm0) Try.func15 fn0 sR_ymay (.inl rfl) (for_Sta fun q0 gq0 => fun  hp ρ g => sX_ymay q0 gq0 ρ g)
def sM_yhold (key : Nat) : Sm := ⟨29, key, [.agg kTy, .one (.int .u64)], [.one .bool], false⟩
def sV_yhold (t : Ty) (v : Int) : List Dt := [.z (b2i (thold t v))]
def sF_yhold : List Dt → List Dt
  | [.z x0, .z x1, .z x2, .z x3, .z x4, .z x5, .z x6, .z x7, .z x8, .z x9] => sV_yhold ⟨x0, x1, x2, x3, x4, x5, x6, x7, x8⟩ x9
  | _ => []
def sT_yhold : Tr :=
(.call 0 ([.bool]) (.vs 0 9 .nil) 10
(.br (.bvar 10)
(.br (.eq (.var 0) (.lit 0))
(.leaf (.consb (.tt true) .nil))
(.br (.eq (.var 0) (.lit 1))
(.call 1 ([.bool]) (.vs 1 6 (.cons (.var 9) .nil)) 11
(.leaf (.consb (.bvar 11) .nil)))
(.br (.eq (.var 0) (.lit 2))
(.br (.lt (.conv .i64 (.bin .sub .u64 (.var 9) (.lit 2097152))) (.var 7))
(.leaf (.consb (.tt false) .nil))
(.leaf (.consb (.not (.lt (.var 8) (.conv .i64 (.bin .sub .u64 (.var 9) (.lit 2097152))))) .nil)))
(.br (.lt (.conv .i64 (.bin .sub .u64 (.var 9) (.lit 3145728))) (.var 7))
(.leaf (.consb (.tt false) .nil))
(.leaf (.consb (.not (.lt (.var 8) (.conv .i64 (.bin .sub .u64 (.var 9) (.lit 3145728))))) .nil))))))
(.leaf (.consb (.tt false) .nil))))
def sP_yhold : Spec := ⟨fun k => match k with | 0 => sF_ytok | 1 => sF_whas | _ => fun _ => [], fun k => match k with | _ => fun _ => True⟩
set_option maxRecDepth 100000 in
theorem sR_yhold : treeIs tys_SdG [sM_ytok 0, sM_whas 1] [] [] [] 200 Try.f29 [.agg kTy, .one (.int .u64)] [.one .bool] false (v_Ty ( .int .u64 :: ([]))) sT_yhold := ⟨by kernel_rfl, by kernel_rfl, by kernel_rfl⟩
set_option maxRecDepth 100000 in
set_option maxHeartbeats 8000000 in
theorem sX_yhold (t : Ty) (ht : Ty.ok t) (v : Int) (hv : inK .u64 v = true) (ρ : Env) (g : varsD ρ 0 (v_Ty ( .int .u64 :: ([]))) = (d_Ty t ( .z v :: ([])))) : sT_yhold.asks sP_yhold (fun ρ e => e.D ρ = sF_yhold (d_Ty t ( .z v :: ([])))) ρ fun _ _ => False := by
  simp only [d_Ty, v_Ty, varsD, varD, List.cons.injEq, Dt.z.injEq, Dt.l.injEq, b2i_eq_iff, Nat.reduceAdd, and_true] at g
  simp only [sT_yhold, sP_yhold, d_Ty, sF_ytok, sF_whas, sV_ytok, sV_whas, sF_yhold, sV_yhold, Tr.asks, upd_same, okDs, okD, eqs, E.I, E.B, E.L, E.R, E.D, E.vs, dI, dB, dL, varD, varsD, List.getElem?_cons_zero, List.getElem?_cons_succ, List.cons_append, List.nil_append, Nat.zero_add, Nat.add_zero, Nat.reduceAdd, and_true, true_and, b2i_one, -eq_self, etasX, g]
  intro e; (try simp only [e, etasX, -eq_self]); clear e
  refine ⟨fun c0 => ?_, fun c0 => ?_⟩
  refine ⟨fun c1 => ?_, fun c1 => ?_⟩
  · rw [thold_0 c0 (eqz c1)]; try rfl
  refine ⟨fun c2 => ?_, fun c2 => ?_⟩
  intro e; (try simp only [e, etasX, -eq_self]); clear e
  · rw [thold_1 c0 (eqz c2)]; try rfl
  refine ⟨fun c3 => ?_, fun c3 => ?_⟩
  refine ⟨fun c4 => ?_, fun c4 => ?_⟩
  · simp only [opI] at c4 ⊢; rw [thold_2 c0 (eqz c3), lele_no c4]; try rfl
  · simp only [opI] at c4 ⊢; rw [thold_2 c0 (eqz c3), lele_yes c4]; try rfl
  refine ⟨fun c5 => ?_, fun c5 => ?_⟩
  · have hk : t.k = 3 := (by rcases tok_kinds c0 with h | h | h | h <;> first | exact h | (rw [h] at c1 c2 c3; simp at c1 c2 c3))
    simp only [opI] at c5 ⊢; rw [thold_3 c0 hk, lele_no c5]; try rfl
  · have hk : t.k = 3 := (by rcases tok_kinds c0 with h | h | h | h <;> first | exact h | (rw [h] at c1 c2 c3; simp at c1 c2 c3))
    simp only [opI] at c5 ⊢; rw [thold_3 c0 hk, lele_yes c5]; try rfl
  · rw [thold_no c0]
theorem sK_yhold {sp : Spec} {key : Nat} (hF : sp.F key = sF_yhold) (hP : sp.pre key = fun _ => True := by rfl) : SmOk Try.prog sp (sM_yhold key) :=
  fun_ok (s := sM_yhold key) hF hP (by kernel_rfl) tysok_SdG (smc (sK_ytok rfl) (smc (sK_whas rfl) sm0)) Try.func29 fn0 sR_yhold (.inl rfl) (for_Ty fun q0 gq0 => fun x9 gx9 hp ρ g => sX_yhold q0 gq0 x9 gx9 ρ g)
def sM_yfirst (key : Nat) : Sm := ⟨24, key, [], [.agg kSta], false⟩
def sF_yfirst : List Dt → List Dt
  | [] => d_Sta (sfirst) ([])
  | _ => []
def sT_yfirst : Tr :=
(.call 0 (kSc) (.cons (.lit 0) .nil) 0
(.leaf (.cons (.lit 0) (.cons (.lit 0) (.cons (.lit 0) (.cons (.lit 0) (.cons (.lit 0) (.cons (.lit 0) (.cons (.lit 0) (.cons (.lit 0) (.cons (.lit 0) (.cons (.lit 2) (.cons (.lit 0) (.cons (.lit 0) (.cons (.lit 0) (.cons (.lit 0) (.cons (.lit 0) (.cons (.lit 0) (.cons (.lit 0) (.cons (.lit 0) (.cons (.lit 0) (.cons (.lit 0) (.cons (.lit 0) (.cons (.lit 0) (.cons (.lit 0) (.cons (.lit 0) (.cons (.lit 0) (.cons (.lit 0) (.cons (.lit 0) (.cons (.lit 0) (.cons (.lit 0) (.cons (.lit 0) (.cons (.lit 0) (.cons (.lit 0) (.cons (.lit 0) (.cons (.lit 0) (.cons (.lit 0) (.cons (.lit 0) (.cons (.lit 0) (.cons (.lit 0) (.cons (.lit 0) (.cons (.lit 0) (.cons (.lit 0) (.cons (.lit 0) (.cons (.lit 0) (.cons (.lit 0) (.cons (.lit 0) (.cons (.lit 0) (.cons (.lit 0) (.cons (.lit 0) (.cons (.lit 0) (.cons (.lit 0) (.cons (.lit 0) (.cons (.lit 0) (.cons (.lit 0) (.cons (.lit 0) (.cons (.lit 0) (.cons (.lit 0) (.cons (.lit 0) (.cons (.lit 0) (.cons (.lit 0) (.cons (.lit 0) (.cons (.lit 0) (.cons (.lit 0) (.cons (.lit 0) (.cons (.lit 0) (.cons (.lit 0) (.cons (.lit 0) (.cons (.lit 0) (.cons (.lit 0) (.cons (.lit 0) (.cons (.lit 0) (.cons (.lit 0) (.cons (.lit 0) (.cons (.lit 0) (.cons (.lit 0) (.cons (.lit 0) (.cons (.lit 0) (.cons (.lit 0) (.cons (.lit 0) (.cons (.lit 0) (.cons (.lit 0) (.cons (.lit 0) (.cons (.lit 0) (.cons (.lit 0) (.cons (.lit 0) (.cons (.lit 0) (.cons (.lit 0) (.cons (.lit 0) (.cons (.lit 0) (.cons (.lit 0) (.cons (.lit 0) (.cons (.lit 3) (.cons (.lit 0) (.cons (.lit 0) (.cons (.lit 0) (.cons (.lit 0) (.cons (.lit 0) (.cons (.lit 0) (.cons (.lit 64) (.cons (.lit 64) (.cons (.lit 1) (.vs 0 6 (.cons (.lit 0) (.cons (.lit 0) (.cons (.lit 1) (.vs 0 6 (.cons (.lit 0) (.cons (.lit 0) (.cons (.lit 1) (.vs 0 6 (.cons (.lit 0) (.cons (.lit 0) (.cons (.lit 1) (.vs 0 6 (.cons (.lit 0) (.cons (.lit 0) (.cons (.lit 1) (.vs 0 6 (.cons (.lit 0) (.cons (.lit 0) (.cons (.lit 1) (.vs 0 6 (.cons (.lit 0) (.cons (.lit 0) (.cons (.lit 1) (.vs 0 6 (.cons (.lit 0) (.cons (.lit 0) (.cons (.lit 1) (.vs 0 6 (.cons (.lit 0) (.cons (.lit 0) .nil)))))))))))))))))))))))))))))))))))))))))))))))))))))))))))))))))))))))))))))))))))))))))))))))))))))))))))))))))))))))))))))))))))))
def sP_yfirst : Spec := ⟨fun k => match k with | 0 => sF_wone | _ => fun _ => [], fun k => match k with | _ => fun _ => True⟩
set_option maxRecDepth 100000 in
theorem sR_yfirst : treeIs tys_SdG [sM_wone 0] [] [] [] 200 Try.f24 [] [.agg kSta] false [] sT_yfirst := ⟨by kernel_rfl, by kernel_rfl, by kernel_rfl⟩
set_option maxRecDepth 100000 in
set_option maxHeartbeats 8000000 in
theorem sX_yfirst  (ρ : Env) (g : varsD ρ 0 [] = []) : sT_yfirst.asks sP_yfirst (fun ρ e => e.D ρ = sF_yfirst []) ρ fun _ _ => False := by
  simp only [sT_yfirst, sP_yfirst, d_Sta, d_Ty, kSc, sF_wone, sV_wone, sF_yfirst, Tr.asks, upd_same, okDs, okD, eqs, E.I, E.B, E.L, E.R, E.D, E.vs, dI, dB, dL, varD, varsD, List.getElem?_cons_zero, List.getElem?_cons_succ, List.cons_append, List.nil_append, Nat.zero_add, Nat.add_zero, Nat.reduceAdd, and_true, true_and, b2i_one, -eq_self, etasX]
  intro e; (try simp only [e, etasX, -eq_self]); clear e
  · rfl
theorem sK_yfirst {sp : Spec} {key : Nat} (hF : sp.F key = sF_yfirst) (hP : sp.pre key = fun _ => True := by rfl) : SmOk Try.prog sp (sM_yfirst key) :=
  fun_ok (s := sM_yfirst key) hF hP (by kernel_rfl) tysok_SdG (smc (sK_wone rfl) sm0) Try.func24 fn0 sR_yfirst (.inl rfl) (fun  hp ρ g => sX_yfirst ρ g)
def sM_yhas (key : Nat) : Sm := ⟨30, key, [.agg kSta, .agg kSnap], [.one .bool], false⟩
def sV_yhas (s : Sta) (x : Snap) : List Dt := [.z (b2i (shas s x))]
def sF_yhas : List Dt → List Dt := rd_Sta fun s => rd_Snap fun x => fun _ => sV_yhas s x
set_option maxRecDepth 100000 in
def sT_yhas : Tr :=
(.call 0 ([.bool]) (.vs 0 171 .nil) 247
(.br (.bvar 247)
(.cut 0 248 []
(.br (.eq (.var 0) (.lit 0))
(.call 1 ([.bool]) (.vs 0 9 (.cons (.var 171) .nil)) 248
(.br (.bvar 248)
(.next 0 .nil)
(.leaf (.consb (.tt false) .nil))))
(.br (.eq (.bin .and .i64 (.bin .shr .i64 (.var 182) (.lit 0)) (.lit 1)) (.lit 0))
(.leaf (.consb (.tt false) .nil))
(.call 1 ([.bool]) (.vs 0 9 (.cons (.var 171) .nil)) 248
(.br (.bvar 248)
(.next 0 .nil)
(.leaf (.consb (.tt false) .nil))))))
(.cut 1 248 []
(.br (.eq (.var 9) (.lit 0))
(.call 1 ([.bool]) (.vs 9 9 (.cons (.var 172) .nil)) 248
(.br (.bvar 248)
(.next 1 .nil)
(.leaf (.consb (.tt false) .nil))))
(.br (.eq (.bin .and .i64 (.bin .shr .i64 (.var 182) (.lit 1)) (.lit 1)) (.lit 0))
(.leaf (.consb (.tt false) .nil))
(.call 1 ([.bool]) (.vs 9 9 (.cons (.var 172) .nil)) 248
(.br (.bvar 248)
(.next 1 .nil)
(.leaf (.consb (.tt false) .nil))))))
(.cut 2 248 []
(.br (.eq (.var 18) (.lit 0))
(.call 1 ([.bool]) (.vs 18 9 (.cons (.var 173) .nil)) 248
(.br (.bvar 248)
(.next 2 .nil)
(.leaf (.consb (.tt false) .nil))))
(.br (.eq (.bin .and .i64 (.bin .shr .i64 (.var 182) (.lit 2)) (.lit 1)) (.lit 0))
(.leaf (.consb (.tt false) .nil))
(.call 1 ([.bool]) (.vs 18 9 (.cons (.var 173) .nil)) 248
(.br (.bvar 248)
(.next 2 .nil)
(.leaf (.consb (.tt false) .nil))))))
(.cut 3 248 []
(.br (.eq (.var 27) (.lit 0))
(.call 1 ([.bool]) (.vs 27 9 (.cons (.var 174) .nil)) 248
(.br (.bvar 248)
(.next 3 .nil)
(.leaf (.consb (.tt false) .nil))))
(.br (.eq (.bin .and .i64 (.bin .shr .i64 (.var 182) (.lit 3)) (.lit 1)) (.lit 0))
(.leaf (.consb (.tt false) .nil))
(.call 1 ([.bool]) (.vs 27 9 (.cons (.var 174) .nil)) 248
(.br (.bvar 248)
(.next 3 .nil)
(.leaf (.consb (.tt false) .nil))))))
(.cut 4 248 []
(.br (.eq (.var 36) (.lit 0))
(.call 1 ([.bool]) (.vs 36 9 (.cons (.var 175) .nil)) 248
(.br (.bvar 248)
(.next 4 .nil)
(.leaf (.consb (.tt false) .nil))))
(.br (.eq (.bin .and .i64 (.bin .shr .i64 (.var 182) (.lit 4)) (.lit 1)) (.lit 0))
(.leaf (.consb (.tt false) .nil))
(.call 1 ([.bool]) (.vs 36 9 (.cons (.var 175) .nil)) 248
(.br (.bvar 248)
(.next 4 .nil)
(.leaf (.consb (.tt false) .nil))))))
(.cut 5 248 []
(.br (.eq (.var 45) (.lit 0))
(.call 1 ([.bool]) (.vs 45 9 (.cons (.var 176) .nil)) 248
(.br (.bvar 248)
(.next 5 .nil)
(.leaf (.consb (.tt false) .nil))))
(.br (.eq (.bin .and .i64 (.bin .shr .i64 (.var 182) (.lit 5)) (.lit 1)) (.lit 0))
(.leaf (.consb (.tt false) .nil))
(.call 1 ([.bool]) (.vs 45 9 (.cons (.var 176) .nil)) 248
(.br (.bvar 248)
(.next 5 .nil)
(.leaf (.consb (.tt false) .nil))))))
(.cut 6 248 []
(.br (.eq (.var 54) (.lit 0))
(.call 1 ([.bool]) (.vs 54 9 (.cons (.var 177) .nil)) 248
(.br (.bvar 248)
(.next 6 .nil)
(.leaf (.consb (.tt false) .nil))))
(.br (.eq (.bin .and .i64 (.bin .shr .i64 (.var 182) (.lit 6)) (.lit 1)) (.lit 0))
(.leaf (.consb (.tt false) .nil))
(.call 1 ([.bool]) (.vs 54 9 (.cons (.var 177) .nil)) 248
(.br (.bvar 248)
(.next 6 .nil)
(.leaf (.consb (.tt false) .nil))))))
(.cut 7 248 []
(.br (.eq (.var 63) (.lit 0))
(.call 1 ([.bool]) (.vs 63 9 (.cons (.var 178) .nil)) 248
(.br (.bvar 248)
(.next 7 .nil)
(.leaf (.consb (.tt false) .nil))))
(.br (.eq (.bin .and .i64 (.bin .shr .i64 (.var 182) (.lit 7)) (.lit 1)) (.lit 0))
(.leaf (.consb (.tt false) .nil))
(.call 1 ([.bool]) (.vs 63 9 (.cons (.var 178) .nil)) 248
(.br (.bvar 248)
(.next 7 .nil)
(.leaf (.consb (.tt false) .nil))))))
(.cut 8 248 []
(.br (.eq (.var 72) (.lit 0))
(.call 1 ([.bool]) (.vs 72 9 (.cons (.var 179) .nil)) 248
(.br (.bvar 248)
(.next 8 .nil)
(.leaf (.consb (.tt false) .nil))))
(.br (.eq (.bin .and .i64 (.bin .shr .i64 (.var 182) (.lit 8)) (.lit 1)) (.lit 0))
(.leaf (.consb (.tt false) .nil))
(.call 1 ([.bool]) (.vs 72 9 (.cons (.var 179) .nil)) 248
(.br (.bvar 248)
(.next 8 .nil)
(.leaf (.consb (.tt false) .nil))))))
(.cut 9 248 []
(.br (.eq (.var 81) (.lit 0))
(.call 1 ([.bool]) (.vs 81 9 (.cons (.var 180) .nil)) 248
(.br (.bvar 248)
(.next 9 .nil)
(.leaf (.consb (.tt false) .nil))))
(.br (.eq (.bin .and .i64 (.bin .shr .i64 (.var 182) (.lit 9)) (.lit 1)) (.lit 0))
(.leaf (.consb (.tt false) .nil))
(.call 1 ([.bool]) (.vs 81 9 (.cons (.var 180) .nil)) 248
(.br (.bvar 248)
(.next 9 .nil)
(.leaf (.consb (.tt false) .nil))))))
(.cut 10 248 []
(.br (.eq (.var 90) (.lit 0))
(.call 1 ([.bool]) (.vs 90 9 (.cons (.var 181) .nil)) 248
(.br (.bvar 248)
(.next 10 .nil)
(.leaf (.consb (.tt false) .nil))))
(.br (.eq (.bin .and .i64 (.bin .shr .i64 (.var 182) (.lit 10)) (.lit 1)) (.lit 0))
(.leaf (.consb (.tt false) .nil))
(.call 1 ([.bool]) (.vs 90 9 (.cons (.var 181) .nil)) 248
(.br (.bvar 248)
(.next 10 .nil)
(.leaf (.consb (.tt false) .nil))))))
(.call 1 ([.bool]) (.vs 99 9 (.cons (.bin .or .u64 (.bin .shl .u64 (.bin .or .u64 (.bin .shl .u64 (.bin .or .u64 (.bin .shl .u64 (.bin .or .u64 (.bin .shl .u64 (.bin .or .u64 (.bin .shl .u64 (.bin .or .u64 (.bin .shl .u64 (.bin .or .u64 (.bin .shl .u64 (.bin .or .u64 (.lit 0) (.conv .u64 (.var 190))) (.lit 8)) (.conv .u64 (.var 189))) (.lit 8)) (.conv .u64 (.var 188))) (.lit 8)) (.conv .u64 (.var 187))) (.lit 8)) (.conv .u64 (.var 186))) (.lit 8)) (.conv .u64 (.var 185))) (.lit 8)) (.conv .u64 (.var 184))) (.lit 8)) (.conv .u64 (.var 183))) .nil)) 248
(.br (.bvar 248)
(.call 1 ([.bool]) (.vs 108 9 (.cons (.bin .or .u64 (.bin .shl .u64 (.bin .or .u64 (.bin .shl .u64 (.bin .or .u64 (.bin .shl .u64 (.bin .or .u64 (.bin .shl .u64 (.bin .or .u64 (.bin .shl .u64 (.bin .or .u64 (.bin .shl .u64 (.bin .or .u64 (.bin .shl .u64 (.bin .or .u64 (.lit 0) (.conv .u64 (.var 198))) (.lit 8)) (.conv .u64 (.var 197))) (.lit 8)) (.conv .u64 (.var 196))) (.lit 8)) (.conv .u64 (.var 195))) (.lit 8)) (.conv .u64 (.var 194))) (.lit 8)) (.conv .u64 (.var 193))) (.lit 8)) (.conv .u64 (.var 192))) (.lit 8)) (.conv .u64 (.var 191))) .nil)) 249
(.br (.bvar 249)
(.call 1 ([.bool]) (.vs 117 9 (.cons (.bin .or .u64 (.bin .shl .u64 (.bin .or .u64 (.bin .shl .u64 (.bin .or .u64 (.bin .shl .u64 (.bin .or .u64 (.bin .shl .u64 (.bin .or .u64 (.bin .shl .u64 (.bin .or .u64 (.bin .shl .u64 (.bin .or .u64 (.bin .shl .u64 (.bin .or .u64 (.lit 0) (.conv .u64 (.var 206))) (.lit 8)) (.conv .u64 (.var 205))) (.lit 8)) (.conv .u64 (.var 204))) (.lit 8)) (.conv .u64 (.var 203))) (.lit 8)) (.conv .u64 (.var 202))) (.lit 8)) (.conv .u64 (.var 201))) (.lit 8)) (.conv .u64 (.var 200))) (.lit 8)) (.conv .u64 (.var 199))) .nil)) 250
(.br (.bvar 250)
(.call 1 ([.bool]) (.vs 126 9 (.cons (.bin .or .u64 (.bin .shl .u64 (.bin .or .u64 (.bin .shl .u64 (.bin .or .u64 (.bin .shl .u64 (.bin .or .u64 (.bin .shl .u64 (.bin .or .u64 (.bin .shl .u64 (.bin .or .u64 (.bin .shl .u64 (.bin .or .u64 (.bin .shl .u64 (.bin .or .u64 (.lit 0) (.conv .u64 (.var 214))) (.lit 8)) (.conv .u64 (.var 213))) (.lit 8)) (.conv .u64 (.var 212))) (.lit 8)) (.conv .u64 (.var 211))) (.lit 8)) (.conv .u64 (.var 210))) (.lit 8)) (.conv .u64 (.var 209))) (.lit 8)) (.conv .u64 (.var 208))) (.lit 8)) (.conv .u64 (.var 207))) .nil)) 251
(.br (.bvar 251)
(.call 1 ([.bool]) (.vs 135 9 (.cons (.bin .or .u64 (.bin .shl .u64 (.bin .or .u64 (.bin .shl .u64 (.bin .or .u64 (.bin .shl .u64 (.bin .or .u64 (.bin .shl .u64 (.bin .or .u64 (.bin .shl .u64 (.bin .or .u64 (.bin .shl .u64 (.bin .or .u64 (.bin .shl .u64 (.bin .or .u64 (.lit 0) (.conv .u64 (.var 222))) (.lit 8)) (.conv .u64 (.var 221))) (.lit 8)) (.conv .u64 (.var 220))) (.lit 8)) (.conv .u64 (.var 219))) (.lit 8)) (.conv .u64 (.var 218))) (.lit 8)) (.conv .u64 (.var 217))) (.lit 8)) (.conv .u64 (.var 216))) (.lit 8)) (.conv .u64 (.var 215))) .nil)) 252
(.br (.bvar 252)
(.call 1 ([.bool]) (.vs 144 9 (.cons (.bin .or .u64 (.bin .shl .u64 (.bin .or .u64 (.bin .shl .u64 (.bin .or .u64 (.bin .shl .u64 (.bin .or .u64 (.bin .shl .u64 (.bin .or .u64 (.bin .shl .u64 (.bin .or .u64 (.bin .shl .u64 (.bin .or .u64 (.bin .shl .u64 (.bin .or .u64 (.lit 0) (.conv .u64 (.var 230))) (.lit 8)) (.conv .u64 (.var 229))) (.lit 8)) (.conv .u64 (.var 228))) (.lit 8)) (.conv .u64 (.var 227))) (.lit 8)) (.conv .u64 (.var 226))) (.lit 8)) (.conv .u64 (.var 225))) (.lit 8)) (.conv .u64 (.var 224))) (.lit 8)) (.conv .u64 (.var 223))) .nil)) 253
(.br (.bvar 253)
(.call 1 ([.bool]) (.vs 153 9 (.cons (.bin .or .u64 (.bin .shl .u64 (.bin .or .u64 (.bin .shl .u64 (.bin .or .u64 (.bin .shl .u64 (.bin .or .u64 (.bin .shl .u64 (.bin .or .u64 (.bin .shl .u64 (.bin .or .u64 (.bin .shl .u64 (.bin .or .u64 (.bin .shl .u64 (.bin .or .u64 (.lit 0) (.conv .u64 (.var 238))) (.lit 8)) (.conv .u64 (.var 237))) (.lit 8)) (.conv .u64 (.var 236))) (.lit 8)) (.conv .u64 (.var 235))) (.lit 8)) (.conv .u64 (.var 234))) (.lit 8)) (.conv .u64 (.var 233))) (.lit 8)) (.conv .u64 (.var 232))) (.lit 8)) (.conv .u64 (.var 231))) .nil)) 254
(.br (.bvar 254)
(.call 1 ([.bool]) (.vs 162 9 (.cons (.bin .or .u64 (.bin .shl .u64 (.bin .or .u64 (.bin .shl .u64 (.bin .or .u64 (.bin .shl .u64 (.bin .or .u64 (.bin .shl .u64 (.bin .or .u64 (.bin .shl .u64 (.bin .or .u64 (.bin .shl .u64 (.bin .or .u64 (.bin .shl .u64 (.bin .or .u64 (.lit 0) (.conv .u64 (.var 246))) (.lit 8)) (.conv .u64 (.var 245))) (.lit 8)) (.conv .u64 (.var 244))) (.lit 8)) (.conv .u64 (.var 243))) (.lit 8)) (.conv .u64 (.var 242))) (.lit 8)) (.conv .u64 (.var 241))) (.lit 8)) (.conv .u64 (.var 240))) (.lit 8)) (.conv .u64 (.var 239))) .nil)) 255
(.br (.bvar 255)
(.leaf (.consb (.tt true) .nil))
(.leaf (.consb (.tt false) .nil))))
(.leaf (.consb (.tt false) .nil))))
(.leaf (.consb (.tt false) .nil))))
(.leaf (.consb (.tt false) .nil))))
(.leaf (.consb (.tt false) .nil))))
(.leaf (.consb (.tt false) .nil))))
(.leaf (.consb (.tt false) .nil))))
(.leaf (.consb (.tt false) .nil)))))))))))))))
(.leaf (.consb (.tt false) .nil))))
def sP_yhas : Spec := ⟨fun k => match k with | 0 => sF_ymay | 1 => sF_yhold | _ => fun _ => [], fun k => match k with | _ => fun _ => True⟩
set_option maxRecDepth 100000 in
theorem sR_yhas : treeIs tys_SdG [sM_ymay 0, sM_yhold 1] [] [] [(5, [.top 16, .top 17, .top 18, .top 19, .top 20, .top 21, .top 22, .top 23, .top 24, .top 25, .top 26, .top 27, .top 28, .top 29, .top 30, .top 31, .top 32, .top 33, .top 34, .top 35, .top 36, .top 37, .top 38, .top 39, .top 40, .top 41, .top 4])] 400 Try.f30 [.agg kSta, .agg kSnap] [.one .bool] false (v_Sta ( v_Snap ([]))) sT_yhas := ⟨by kernel_rfl, by kernel_rfl, by kernel_rfl⟩
set_option maxRecDepth 100000 in
set_option maxHeartbeats 8000000 in
theorem sX_yhas (s : Sta) (hs : Sta.ok s) (x : Snap) (hx : Snap.ok x) (ρ : Env) (g : varsD ρ 0 (v_Sta ( v_Snap ([]))) = (d_Sta s ( d_Snap x ([])))) : sT_yhas.asks sP_yhas (fun ρ e => e.D ρ = sF_yhas (d_Sta s ( d_Snap x ([])))) ρ fun _ _ => False := by
  have keepg := g
  simp only [sF_yhas, rd_Sta_d, rd_Ty_d, rd_Snap_d, rdZ, rdB]
  simp only [d_Sta, d_Ty, d_Snap, v_Sta, v_Ty, v_Snap, varsD, varD, List.cons.injEq, Dt.z.injEq, Dt.l.injEq, b2i_eq_iff, Nat.reduceAdd, and_true] at g
  simp (maxSteps := 10000000) only [sT_yhas, sP_yhas, d_Sta, d_Ty, d_Snap, rd_Sta, rd_Ty, rd_Snap, rd8, rdZ, sF_ymay, sF_yhold, sV_ymay, sV_yhold, sF_yhas, sV_yhas, Tr.asks, upd_same, okDs, okD, eqs, E.I, E.B, E.L, E.R, E.D, E.vs, dI, dB, dL, varD, varsD, List.getElem?_cons_zero, List.getElem?_cons_succ, List.cons_append, List.nil_append, Nat.zero_add, Nat.add_zero, Nat.reduceAdd, and_true, true_and, b2i_one, -eq_self, etasX, g]
  intro e; (try simp only [e, etasX, -eq_self]); clear e
  refine ⟨fun c0 => ?_, fun c0 => ?_⟩
  refine ⟨fun _ => rok x.set 0 s.r0 x.r0 = true, ?_, ?_⟩
  refine ⟨fun c1 => ?_, fun c1 => ?_⟩
  intro e; (try simp only [e, etasX, -eq_self]); clear e
  refine ⟨fun c2 => ?_, fun c2 => ?_⟩
  · exact rok_k c1 c2
  · simp only [shas, rok_h (set := x.set) (i := 0) c2, Bool.false_and, Bool.and_false]
  refine ⟨fun c3 => ?_, fun c3 => ?_⟩
  · simp only [shas, rok_n (i := 0) (v := x.r0) c1 (show sbit x.set 0 = false by unfold sbit; have h := c3; rw [sbit_not] at h; simpa using h), Bool.false_and, Bool.and_false]
  intro e; (try simp only [e, etasX, -eq_self]); clear e
  refine ⟨fun c4 => ?_, fun c4 => ?_⟩
  · exact rok_s (show sbit x.set 0 = true by unfold sbit; have h := c3; rw [sbit_not] at h; simpa using h) c4
  · simp only [shas, rok_h (set := x.set) (i := 0) c4, Bool.false_and, Bool.and_false]
  intro ρ0 ha0 _ hi0
  have keepg0 := (varsD_ag ha0 _ 0 (by decide)).trans keepg
  have g0 := keepg0
  simp only [d_Ty, v_Ty, d_Sta, v_Sta, d_Snap, v_Snap, d_Fr, v_Fr, varsD, varD, List.cons.injEq, Dt.z.injEq, Dt.l.injEq, b2i_eq_iff, Nat.reduceAdd, and_true] at g0
  simp only [g0, -eq_self]
  refine ⟨fun _ => rok x.set 1 s.r1 x.r1 = true, ?_, ?_⟩
  refine ⟨fun c5 => ?_, fun c5 => ?_⟩
  intro e; (try simp only [e, etasX, -eq_self]); clear e
  refine ⟨fun c6 => ?_, fun c6 => ?_⟩
  · exact rok_k c5 c6
  · simp only [shas, rok_h (set := x.set) (i := 1) c6, Bool.false_and, Bool.and_false]
  refine ⟨fun c7 => ?_, fun c7 => ?_⟩
  · simp only [shas, rok_n (i := 1) (v := x.r1) c5 (show sbit x.set 1 = false by unfold sbit; have h := c7; rw [sbit_not] at h; simpa using h), Bool.false_and, Bool.and_false]
  intro e; (try simp only [e, etasX, -eq_self]); clear e
  refine ⟨fun c8 => ?_, fun c8 => ?_⟩
  · exact rok_s (show sbit x.set 1 = true by unfold sbit; have h := c7; rw [sbit_not] at h; simpa using h) c8
  · simp only [shas, rok_h (set := x.set) (i := 1) c8, Bool.false_and, Bool.and_false]
  intro ρ1 ha1 _ hi1
  have keepg1 := (varsD_ag ha1 _ 0 (by decide)).trans keepg0
  have g1 := keepg1
  simp only [d_Ty, v_Ty, d_Sta, v_Sta, d_Snap, v_Snap, d_Fr, v_Fr, varsD, varD, List.cons.injEq, Dt.z.injEq, Dt.l.injEq, b2i_eq_iff, Nat.reduceAdd, and_true] at g1
  simp only [g1, -eq_self]
  refine ⟨fun _ => rok x.set 2 s.r2 x.r2 = true, ?_, ?_⟩
  refine ⟨fun c9 => ?_, fun c9 => ?_⟩
  intro e; (try simp only [e, etasX, -eq_self]); clear e
  refine ⟨fun c10 => ?_, fun c10 => ?_⟩
  · exact rok_k c9 c10
  · simp only [shas, rok_h (set := x.set) (i := 2) c10, Bool.false_and, Bool.and_false]
  refine ⟨fun c11 => ?_, fun c11 => ?_⟩
  · simp only [shas, rok_n (i := 2) (v := x.r2) c9 (show sbit x.set 2 = false by unfold sbit; have h := c11; rw [sbit_not] at h; simpa using h), Bool.false_and, Bool.and_false]
  intro e; (try simp only [e, etasX, -eq_self]); clear e
  refine ⟨fun c12 => ?_, fun c12 => ?_⟩
  · exact rok_s (show sbit x.set 2 = true by unfold sbit; have h := c11; rw [sbit_not] at h; simpa using h) c12
  · simp only [shas, rok_h (set := x.set) (i := 2) c12, Bool.false_and, Bool.and_false]
  intro ρ2 ha2 _ hi2
  have keepg2 := (varsD_ag ha2 _ 0 (by decide)).trans keepg1
  have g2 := keepg2
  simp only [d_Ty, v_Ty, d_Sta, v_Sta, d_Snap, v_Snap, d_Fr, v_Fr, varsD, varD, List.cons.injEq, Dt.z.injEq, Dt.l.injEq, b2i_eq_iff, Nat.reduceAdd, and_true] at g2
  simp only [g2, -eq_self]
  refine ⟨fun _ => rok x.set 3 s.r3 x.r3 = true, ?_, ?_⟩
  refine ⟨fun c13 => ?_, fun c13 => ?_⟩
  intro e; (try simp only [e, etasX, -eq_self]); clear e
  refine ⟨fun c14 => ?_, fun c14 => ?_⟩
  · exact rok_k c13 c14
  · simp only [shas, rok_h (set := x.set) (i := 3) c14, Bool.false_and, Bool.and_false]
  refine ⟨fun c15 => ?_, fun c15 => ?_⟩
  · simp only [shas, rok_n (i := 3) (v := x.r3) c13 (show sbit x.set 3 = false by unfold sbit; have h := c15; rw [sbit_not] at h; simpa using h), Bool.false_and, Bool.and_false]
  intro e; (try simp only [e, etasX, -eq_self]); clear e
  refine ⟨fun c16 => ?_, fun c16 => ?_⟩
  · exact rok_s (show sbit x.set 3 = true by unfold sbit; have h := c15; rw [sbit_not] at h; simpa using h) c16
  · simp only [shas, rok_h (set := x.set) (i := 3) c16, Bool.false_and, Bool.and_false]
  intro ρ3 ha3 _ hi3
  have keepg3 := (varsD_ag ha3 _ 0 (by decide)).trans keepg2
  have g3 := keepg3
  simp only [d_Ty, v_Ty, d_Sta, v_Sta, d_Snap, v_Snap, d_Fr, v_Fr, varsD, varD, List.cons.injEq, Dt.z.injEq, Dt.l.injEq, b2i_eq_iff, Nat.reduceAdd, and_true] at g3
  simp only [g3, -eq_self]
  refine ⟨fun _ => rok x.set 4 s.r4 x.r4 = true, ?_, ?_⟩
  refine ⟨fun c17 => ?_, fun c17 => ?_⟩
  intro e; (try simp only [e, etasX, -eq_self]); clear e
  refine ⟨fun c18 => ?_, fun c18 => ?_⟩
  · exact rok_k c17 c18
  · simp only [shas, rok_h (set := x.set) (i := 4) c18, Bool.false_and, Bool.and_false]
  refine ⟨fun c19 => ?_, fun c19 => ?_⟩
  · simp only [shas, rok_n (i := 4) (v := x.r4) c17 (show sbit x.set 4 = false by unfold sbit; have h := c19; rw [sbit_not] at h; simpa using h), Bool.false_and, Bool.and_false]
  intro e; (try simp only [e, etasX, -eq_self]); clear e
  refine ⟨fun c20 => ?_, fun c20 => ?_⟩
  · exact rok_s (show sbit x.set 4 = true by unfold sbit; have h := c19; rw [sbit_not] at h; simpa using h) c20
  · simp only [shas, rok_h (set := x.set) (i := 4) c20, Bool.false_and, Bool.and_false]
  intro ρ4 ha4 _ hi4
  have keepg4 := (varsD_ag ha4 _ 0 (by decide)).trans keepg3
  have g4 := keepg4
  simp only [d_Ty, v_Ty, d_Sta, v_Sta, d_Snap, v_Snap, d_Fr, v_Fr, varsD, varD, List.cons.injEq, Dt.z.injEq, Dt.l.injEq, b2i_eq_iff, Nat.reduceAdd, and_true] at g4
  simp only [g4, -eq_self]
  refine ⟨fun _ => rok x.set 5 s.r5 x.r5 = true, ?_, ?_⟩
  refine ⟨fun c21 => ?_, fun c21 => ?_⟩
  intro e; (try simp only [e, etasX, -eq_self]); clear e
  refine ⟨fun c22 => ?_, fun c22 => ?_⟩
  · exact rok_k c21 c22
  · simp only [shas, rok_h (set := x.set) (i := 5) c22, Bool.false_and, Bool.and_false]
  refine ⟨fun c23 => ?_, fun c23 => ?_⟩
  · simp only [shas, rok_n (i := 5) (v := x.r5) c21 (show sbit x.set 5 = false by unfold sbit; have h := c23; rw [sbit_not] at h; simpa using h), Bool.false_and, Bool.and_false]
  intro e; (try simp only [e, etasX, -eq_self]); clear e
  refine ⟨fun c24 => ?_, fun c24 => ?_⟩
  · exact rok_s (show sbit x.set 5 = true by unfold sbit; have h := c23; rw [sbit_not] at h; simpa using h) c24
  · simp only [shas, rok_h (set := x.set) (i := 5) c24, Bool.false_and, Bool.and_false]
  intro ρ5 ha5 _ hi5
  have keepg5 := (varsD_ag ha5 _ 0 (by decide)).trans keepg4
  have g5 := keepg5
  simp only [d_Ty, v_Ty, d_Sta, v_Sta, d_Snap, v_Snap, d_Fr, v_Fr, varsD, varD, List.cons.injEq, Dt.z.injEq, Dt.l.injEq, b2i_eq_iff, Nat.reduceAdd, and_true] at g5
  simp only [g5, -eq_self]
  refine ⟨fun _ => rok x.set 6 s.r6 x.r6 = true, ?_, ?_⟩
  refine ⟨fun c25 => ?_, fun c25 => ?_⟩
  intro e; (try simp only [e, etasX, -eq_self]); clear e
  refine ⟨fun c26 => ?_, fun c26 => ?_⟩
  · exact rok_k c25 c26
  · simp only [shas, rok_h (set := x.set) (i := 6) c26, Bool.false_and, Bool.and_false]
  refine ⟨fun c27 => ?_, fun c27 => ?_⟩
  · simp only [shas, rok_n (i := 6) (v := x.r6) c25 (show sbit x.set 6 = false by unfold sbit; have h := c27; rw [sbit_not] at h; simpa using h), Bool.false_and, Bool.and_false]
  intro e; (try simp only [e, etasX, -eq_self]); clear e
  refine ⟨fun c28 => ?_, fun c28 => ?_⟩
  · exact rok_s (show sbit x.set 6 = true by unfold sbit; have h := c27; rw [sbit_not] at h; simpa using h) c28
  · simp only [shas, rok_h (set := x.set) (i := 6) c28, Bool.false_and, Bool.and_false]
  intro ρ6 ha6 _ hi6
  have keepg6 := (varsD_ag ha6 _ 0 (by decide)).trans keepg5
  have g6 := keepg6
  simp only [d_Ty, v_Ty, d_Sta, v_Sta, d_Snap, v_Snap, d_Fr, v_Fr, varsD, varD, List.cons.injEq, Dt.z.injEq, Dt.l.injEq, b2i_eq_iff, Nat.reduceAdd, and_true] at g6
  simp only [g6, -eq_self]
  refine ⟨fun _ => rok x.set 7 s.r7 x.r7 = true, ?_, ?_⟩
  refine ⟨fun c29 => ?_, fun c29 => ?_⟩
  intro e; (try simp only [e, etasX, -eq_self]); clear e
  refine ⟨fun c30 => ?_, fun c30 => ?_⟩
  · exact rok_k c29 c30
  · simp only [shas, rok_h (set := x.set) (i := 7) c30, Bool.false_and, Bool.and_false]
  refine ⟨fun c31 => ?_, fun c31 => ?_⟩
  · simp only [shas, rok_n (i := 7) (v := x.r7) c29 (show sbit x.set 7 = false by unfold sbit; have h := c31; rw [sbit_not] at h; simpa using h), Bool.false_and, Bool.and_false]
  intro e; (try simp only [e, etasX, -eq_self]); clear e
  refine ⟨fun c32 => ?_, fun c32 => ?_⟩
  · exact rok_s (show sbit x.set 7 = true by unfold sbit; have h := c31; rw [sbit_not] at h; simpa using h) c32
  · simp only [shas, rok_h (set := x.set) (i := 7) c32, Bool.false_and, Bool.and_false]
  intro ρ7 ha7 _ hi7
  have keepg7 := (varsD_ag ha7 _ 0 (by decide)).trans keepg6
  have g7 := keepg7
  simp only [d_Ty, v_Ty, d_Sta, v_Sta, d_Snap, v_Snap, d_Fr, v_Fr, varsD, varD, List.cons.injEq, Dt.z.injEq, Dt.l.injEq, b2i_eq_iff, Nat.reduceAdd, and_true] at g7
  simp only [g7, -eq_self]
  refine ⟨fun _ => rok x.set 8 s.r8 x.r8 = true, ?_, ?_⟩
  refine ⟨fun c33 => ?_, fun c33 => ?_⟩
  intro e; (try simp only [e, etasX, -eq_self]); clear e
  refine ⟨fun c34 => ?_, fun c34 => ?_⟩
  · exact rok_k c33 c34
  · simp only [shas, rok_h (set := x.set) (i := 8) c34, Bool.false_and, Bool.and_false]
  refine ⟨fun c35 => ?_, fun c35 => ?_⟩
  · simp only [shas, rok_n (i := 8) (v := x.r8) c33 (show sbit x.set 8 = false by unfold sbit; have h := c35; rw [sbit_not] at h; simpa using h), Bool.false_and, Bool.and_false]
  intro e; (try simp only [e, etasX, -eq_self]); clear e
  refine ⟨fun c36 => ?_, fun c36 => ?_⟩
  · exact rok_s (show sbit x.set 8 = true by unfold sbit; have h := c35; rw [sbit_not] at h; simpa using h) c36
  · simp only [shas, rok_h (set := x.set) (i := 8) c36, Bool.false_and, Bool.and_false]
  intro ρ8 ha8 _ hi8
  have keepg8 := (varsD_ag ha8 _ 0 (by decide)).trans keepg7
  have g8 := keepg8
  simp only [d_Ty, v_Ty, d_Sta, v_Sta, d_Snap, v_Snap, d_Fr, v_Fr, varsD, varD, List.cons.injEq, Dt.z.injEq, Dt.l.injEq, b2i_eq_iff, Nat.reduceAdd, and_true] at g8
  simp only [g8, -eq_self]
  refine ⟨fun _ => rok x.set 9 s.r9 x.r9 = true, ?_, ?_⟩
  refine ⟨fun c37 => ?_, fun c37 => ?_⟩
  intro e; (try simp only [e, etasX, -eq_self]); clear e
  refine ⟨fun c38 => ?_, fun c38 => ?_⟩
  · exact rok_k c37 c38
  · simp only [shas, rok_h (set := x.set) (i := 9) c38, Bool.false_and, Bool.and_false]
  refine ⟨fun c39 => ?_, fun c39 => ?_⟩
  · simp only [shas, rok_n (i := 9) (v := x.r9) c37 (show sbit x.set 9 = false by unfold sbit; have h := c39; rw [sbit_not] at h; simpa using h), Bool.false_and, Bool.and_false]
  intro e; (try simp only [e, etasX, -eq_self]); clear e
  refine ⟨fun c40 => ?_, fun c40 => ?_⟩
  · exact rok_s (show sbit x.set 9 = true by unfold sbit; have h := c39; rw [sbit_not] at h; simpa using h) c40
  · simp only [shas, rok_h (set := x.set) (i := 9) c40, Bool.false_and, Bool.and_false]
  intro ρ9 ha9 _ hi9
  have keepg9 := (varsD_ag ha9 _ 0 (by decide)).trans keepg8
  have g9 := keepg9
  simp only [d_Ty, v_Ty, d_Sta, v_Sta, d_Snap, v_Snap, d_Fr, v_Fr, varsD, varD, List.cons.injEq, Dt.z.injEq, Dt.l.injEq, b2i_eq_iff, Nat.reduceAdd, and_true] at g9
  simp only [g9, -eq_self]
  refine ⟨fun _ => rok x.set 10 s.r10 x.r10 = true, ?_, ?_⟩
  refine ⟨fun c41 => ?_, fun c41 => ?_⟩
  intro e; (try simp only [e, etasX, -eq_self]); clear e
  refine ⟨fun c42 => ?_, fun c42 => ?_⟩
  · exact rok_k c41 c42
  · simp only [shas, rok_h (set := x.set) (i := 10) c42, Bool.false_and, Bool.and_false]
  refine ⟨fun c43 => ?_, fun c43 => ?_⟩
  · simp only [shas, rok_n (i := 10) (v := x.r10) c41 (show sbit x.set 10 = false by unfold sbit; have h := c43; rw [sbit_not] at h; simpa using h), Bool.false_and, Bool.and_false]
  intro e; (try simp only [e, etasX, -eq_self]); clear e
  refine ⟨fun c44 => ?_, fun c44 => ?_⟩
  · exact rok_s (show sbit x.set 10 = true by unfold sbit; have h := c43; rw [sbit_not] at h; simpa using h) c44
  · simp only [shas, rok_h (set := x.set) (i := 10) c44, Bool.false_and, Bool.and_false]
  intro ρ10 ha10 _ hi10
  have keepg10 := (varsD_ag ha10 _ 0 (by decide)).trans keepg9
  have g10 := keepg10
  simp only [d_Ty, v_Ty, d_Sta, v_Sta, d_Snap, v_Snap, d_Fr, v_Fr, varsD, varD, List.cons.injEq, Dt.z.injEq, Dt.l.injEq, b2i_eq_iff, Nat.reduceAdd, and_true] at g10
  simp only [g10, -eq_self]
  intro e; (try simp only [e, etasX, -eq_self]); clear e
  refine ⟨fun c45 => ?_, fun c45 => ?_⟩
  intro e; (try simp only [e, etasX, -eq_self]); clear e
  refine ⟨fun c46 => ?_, fun c46 => ?_⟩
  intro e; (try simp only [e, etasX, -eq_self]); clear e
  refine ⟨fun c47 => ?_, fun c47 => ?_⟩
  intro e; (try simp only [e, etasX, -eq_self]); clear e
  refine ⟨fun c48 => ?_, fun c48 => ?_⟩
  intro e; (try simp only [e, etasX, -eq_self]); clear e
  refine ⟨fun c49 => ?_, fun c49 => ?_⟩
  intro e; (try simp only [e, etasX, -eq_self]); clear e
  refine ⟨fun c50 => ?_, fun c50 => ?_⟩
  intro e; (try simp only [e, etasX, -eq_self]); clear e
  refine ⟨fun c51 => ?_, fun c51 => ?_⟩
  intro e; (try simp only [e, etasX, -eq_self]); clear e
  refine ⟨fun c52 => ?_, fun c52 => ?_⟩
  · rw [u8c (hx.2.2.2.2.2.2.2.2.2.2.2.2.2.2.2.2.2.2.2.1), u8c (hx.2.2.2.2.2.2.2.2.2.2.2.2.2.2.2.2.2.2.1), u8c (hx.2.2.2.2.2.2.2.2.2.2.2.2.2.2.2.2.2.1), u8c (hx.2.2.2.2.2.2.2.2.2.2.2.2.2.2.2.2.1), u8c (hx.2.2.2.2.2.2.2.2.2.2.2.2.2.2.2.1), u8c (hx.2.2.2.2.2.2.2.2.2.2.2.2.2.2.1), u8c (hx.2.2.2.2.2.2.2.2.2.2.2.2.2.1), u8c (hx.2.2.2.2.2.2.2.2.2.2.2.2.1), word_dn (hx.2.2.2.2.2.2.2.2.2.2.2.2.1) (hx.2.2.2.2.2.2.2.2.2.2.2.2.2.1) (hx.2.2.2.2.2.2.2.2.2.2.2.2.2.2.1) (hx.2.2.2.2.2.2.2.2.2.2.2.2.2.2.2.1) (hx.2.2.2.2.2.2.2.2.2.2.2.2.2.2.2.2.1) (hx.2.2.2.2.2.2.2.2.2.2.2.2.2.2.2.2.2.1) (hx.2.2.2.2.2.2.2.2.2.2.2.2.2.2.2.2.2.2.1) (hx.2.2.2.2.2.2.2.2.2.2.2.2.2.2.2.2.2.2.2.1)] at c45
    rw [u8c (hx.2.2.2.2.2.2.2.2.2.2.2.2.2.2.2.2.2.2.2.2.2.2.2.2.2.2.2.1), u8c (hx.2.2.2.2.2.2.2.2.2.2.2.2.2.2.2.2.2.2.2.2.2.2.2.2.2.2.1), u8c (hx.2.2.2.2.2.2.2.2.2.2.2.2.2.2.2.2.2.2.2.2.2.2.2.2.2.1), u8c (hx.2.2.2.2.2.2.2.2.2.2.2.2.2.2.2.2.2.2.2.2.2.2.2.2.1), u8c (hx.2.2.2.2.2.2.2.2.2.2.2.2.2.2.2.2.2.2.2.2.2.2.2.1), u8c (hx.2.2.2.2.2.2.2.2.2.2.2.2.2.2.2.2.2.2.2.2.2.2.1), u8c (hx.2.2.2.2.2.2.2.2.2.2.2.2.2.2.2.2.2.2.2.2.2.1), u8c (hx.2.2.2.2.2.2.2.2.2.2.2.2.2.2.2.2.2.2.2.2.1), word_dn (hx.2.2.2.2.2.2.2.2.2.2.2.2.2.2.2.2.2.2.2.2.1) (hx.2.2.2.2.2.2.2.2.2.2.2.2.2.2.2.2.2.2.2.2.2.1) (hx.2.2.2.2.2.2.2.2.2.2.2.2.2.2.2.2.2.2.2.2.2.2.1) (hx.2.2.2.2.2.2.2.2.2.2.2.2.2.2.2.2.2.2.2.2.2.2.2.1) (hx.2.2.2.2.2.2.2.2.2.2.2.2.2.2.2.2.2.2.2.2.2.2.2.2.1) (hx.2.2.2.2.2.2.2.2.2.2.2.2.2.2.2.2.2.2.2.2.2.2.2.2.2.1) (hx.2.2.2.2.2.2.2.2.2.2.2.2.2.2.2.2.2.2.2.2.2.2.2.2.2.2.1) (hx.2.2.2.2.2.2.2.2.2.2.2.2.2.2.2.2.2.2.2.2.2.2.2.2.2.2.2.1)] at c46
    rw [u8c (hx.2.2.2.2.2.2.2.2.2.2.2.2.2.2.2.2.2.2.2.2.2.2.2.2.2.2.2.2.2.2.2.2.2.2.2.1), u8c (hx.2.2.2.2.2.2.2.2.2.2.2.2.2.2.2.2.2.2.2.2.2.2.2.2.2.2.2.2.2.2.2.2.2.2.1), u8c (hx.2.2.2.2.2.2.2.2.2.2.2.2.2.2.2.2.2.2.2.2.2.2.2.2.2.2.2.2.2.2.2.2.2.1), u8c (hx.2.2.2.2.2.2.2.2.2.2.2.2.2.2.2.2.2.2.2.2.2.2.2.2.2.2.2.2.2.2.2.2.1), u8c (hx.2.2.2.2.2.2.2.2.2.2.2.2.2.2.2.2.2.2.2.2.2.2.2.2.2.2.2.2.2.2.2.1), u8c (hx.2.2.2.2.2.2.2.2.2.2.2.2.2.2.2.2.2.2.2.2.2.2.2.2.2.2.2.2.2.2.1), u8c (hx.2.2.2.2.2.2.2.2.2.2.2.2.2.2.2.2.2.2.2.2.2.2.2.2.2.2.2.2.2.1), u8c (hx.2.2.2.2.2.2.2.2.2.2.2.2.2.2.2.2.2.2.2.2.2.2.2.2.2.2.2.2.1), word_dn (hx.2.2.2.2.2.2.2.2.2.2.2.2.2.2.2.2.2.2.2.2.2.2.2.2.2.2.2.2.1) (hx.2.2.2.2.2.2.2.2.2.2.2.2.2.2.2.2.2.2.2.2.2.2.2.2.2.2.2.2.2.1) (hx.2.2.2.2.2.2.2.2.2.2.2.2.2.2.2.2.2.2.2.2.2.2.2.2.2.2.2.2.2.2.1) (hx.2.2.2.2.2.2.2.2.2.2.2.2.2.2.2.2.2.2.2.2.2.2.2.2.2.2.2.2.2.2.2.1) (hx.2.2.2.2.2.2.2.2.2.2.2.2.2.2.2.2.2.2.2.2.2.2.2.2.2.2.2.2.2.2.2.2.1) (hx.2.2.2.2.2.2.2.2.2.2.2.2.2.2.2.2.2.2.2.2.2.2.2.2.2.2.2.2.2.2.2.2.2.1) (hx.2.2.2.2.2.2.2.2.2.2.2.2.2.2.2.2.2.2.2.2.2.2.2.2.2.2.2.2.2.2.2.2.2.2.1) (hx.2.2.2.2.2.2.2.2.2.2.2.2.2.2.2.2.2.2.2.2.2.2.2.2.2.2.2.2.2.2.2.2.2.2.2.1)] at c47
    rw [u8c (hx.2.2.2.2.2.2.2.2.2.2.2.2.2.2.2.2.2.2.2.2.2.2.2.2.2.2.2.2.2.2.2.2.2.2.2.2.2.2.2.2.2.2.2.1), u8c (hx.2.2.2.2.2.2.2.2.2.2.2.2.2.2.2.2.2.2.2.2.2.2.2.2.2.2.2.2.2.2.2.2.2.2.2.2.2.2.2.2.2.2.1), u8c (hx.2.2.2.2.2.2.2.2.2.2.2.2.2.2.2.2.2.2.2.2.2.2.2.2.2.2.2.2.2.2.2.2.2.2.2.2.2.2.2.2.2.1), u8c (hx.2.2.2.2.2.2.2.2.2.2.2.2.2.2.2.2.2.2.2.2.2.2.2.2.2.2.2.2.2.2.2.2.2.2.2.2.2.2.2.2.1), u8c (hx.2.2.2.2.2.2.2.2.2.2.2.2.2.2.2.2.2.2.2.2.2.2.2.2.2.2.2.2.2.2.2.2.2.2.2.2.2.2.2.1), u8c (hx.2.2.2.2.2.2.2.2.2.2.2.2.2.2.2.2.2.2.2.2.2.2.2.2.2.2.2.2.2.2.2.2.2.2.2.2.2.2.1), u8c (hx.2.2.2.2.2.2.2.2.2.2.2.2.2.2.2.2.2.2.2.2.2.2.2.2.2.2.2.2.2.2.2.2.2.2.2.2.2.1), u8c (hx.2.2.2.2.2.2.2.2.2.2.2.2.2.2.2.2.2.2.2.2.2.2.2.2.2.2.2.2.2.2.2.2.2.2.2.2.1), word_dn (hx.2.2.2.2.2.2.2.2.2.2.2.2.2.2.2.2.2.2.2.2.2.2.2.2.2.2.2.2.2.2.2.2.2.2.2.2.1) (hx.2.2.2.2.2.2.2.2.2.2.2.2.2.2.2.2.2.2.2.2.2.2.2.2.2.2.2.2.2.2.2.2.2.2.2.2.2.1) (hx.2.2.2.2.2.2.2.2.2.2.2.2.2.2.2.2.2.2.2.2.2.2.2.2.2.2.2.2.2.2.2.2.2.2.2.2.2.2.1) (hx.2.2.2.2.2.2.2.2.2.2.2.2.2.2.2.2.2.2.2.2.2.2.2.2.2.2.2.2.2.2.2.2.2.2.2.2.2.2.2.1) (hx.2.2.2.2.2.2.2.2.2.2.2.2.2.2.2.2.2.2.2.2.2.2.2.2.2.2.2.2.2.2.2.2.2.2.2.2.2.2.2.2.1) (hx.2.2.2.2.2.2.2.2.2.2.2.2.2.2.2.2.2.2.2.2.2.2.2.2.2.2.2.2.2.2.2.2.2.2.2.2.2.2.2.2.2.1) (hx.2.2.2.2.2.2.2.2.2.2.2.2.2.2.2.2.2.2.2.2.2.2.2.2.2.2.2.2.2.2.2.2.2.2.2.2.2.2.2.2.2.2.1) (hx.2.2.2.2.2.2.2.2.2.2.2.2.2.2.2.2.2.2.2.2.2.2.2.2.2.2.2.2.2.2.2.2.2.2.2.2.2.2.2.2.2.2.2.1)] at c48
    rw [u8c (hx.2.2.2.2.2.2.2.2.2.2.2.2.2.2.2.2.2.2.2.2.2.2.2.2.2.2.2.2.2.2.2.2.2.2.2.2.2.2.2.2.2.2.2.2.2.2.2.2.2.2.2.1), u8c (hx.2.2.2.2.2.2.2.2.2.2.2.2.2.2.2.2.2.2.2.2.2.2.2.2.2.2.2.2.2.2.2.2.2.2.2.2.2.2.2.2.2.2.2.2.2.2.2.2.2.2.1), u8c (hx.2.2.2.2.2.2.2.2.2.2.2.2.2.2.2.2.2.2.2.2.2.2.2.2.2.2.2.2.2.2.2.2.2.2.2.2.2.2.2.2.2.2.2.2.2.2.2.2.2.1), u8c (hx.2.2.2.2.2.2.2.2.2.2.2.2.2.2.2.2.2.2.2.2.2.2.2.2.2.2.2.2.2.2.2.2.2.2.2.2.2.2.2.2.2.2.2.2.2.2.2.2.1), u8c (hx.2.2.2.2.2.2.2.2.2.2.2.2.2.2.2.2.2.2.2.2.2.2.2.2.2.2.2.2.2.2.2.2.2.2.2.2.2.2.2.2.2.2.2.2.2.2.2.1), u8c (hx.2.2.2.2.2.2.2.2.2.2.2.2.2.2.2.2.2.2.2.2.2.2.2.2.2.2.2.2.2.2.2.2.2.2.2.2.2.2.2.2.2.2.2.2.2.2.1), u8c (hx.2.2.2.2.2.2.2.2.2.2.2.2.2.2.2.2.2.2.2.2.2.2.2.2.2.2.2.2.2.2.2.2.2.2.2.2.2.2.2.2.2.2.2.2.2.1), u8c (hx.2.2.2.2.2.2.2.2.2.2.2.2.2.2.2.2.2.2.2.2.2.2.2.2.2.2.2.2.2.2.2.2.2.2.2.2.2.2.2.2.2.2.2.2.1), word_dn (hx.2.2.2.2.2.2.2.2.2.2.2.2.2.2.2.2.2.2.2.2.2.2.2.2.2.2.2.2.2.2.2.2.2.2.2.2.2.2.2.2.2.2.2.2.1) (hx.2.2.2.2.2.2.2.2.2.2.2.2.2.2.2.2.2.2.2.2.2.2.2.2.2.2.2.2.2.2.2.2.2.2.2.2.2.2.2.2.2.2.2.2.2.1) (hx.2.2.2.2.2.2.2.2.2.2.2.2.2.2.2.2.2.2.2.2.2.2.2.2.2.2.2.2.2.2.2.2.2.2.2.2.2.2.2.2.2.2.2.2.2.2.1) (hx.2.2.2.2.2.2.2.2.2.2.2.2.2.2.2.2.2.2.2.2.2.2.2.2.2.2.2.2.2.2.2.2.2.2.2.2.2.2.2.2.2.2.2.2.2.2.2.1) (hx.2.2.2.2.2.2.2.2.2.2.2.2.2.2.2.2.2.2.2.2.2.2.2.2.2.2.2.2.2.2.2.2.2.2.2.2.2.2.2.2.2.2.2.2.2.2.2.2.1) (hx.2.2.2.2.2.2.2.2.2.2.2.2.2.2.2.2.2.2.2.2.2.2.2.2.2.2.2.2.2.2.2.2.2.2.2.2.2.2.2.2.2.2.2.2.2.2.2.2.2.1) (hx.2.2.2.2.2.2.2.2.2.2.2.2.2.2.2.2.2.2.2.2.2.2.2.2.2.2.2.2.2.2.2.2.2.2.2.2.2.2.2.2.2.2.2.2.2.2.2.2.2.2.1) (hx.2.2.2.2.2.2.2.2.2.2.2.2.2.2.2.2.2.2.2.2.2.2.2.2.2.2.2.2.2.2.2.2.2.2.2.2.2.2.2.2.2.2.2.2.2.2.2.2.2.2.2.1)] at c49
    rw [u8c (hx.2.2.2.2.2.2.2.2.2.2.2.2.2.2.2.2.2.2.2.2.2.2.2.2.2.2.2.2.2.2.2.2.2.2.2.2.2.2.2.2.2.2.2.2.2.2.2.2.2.2.2.2.2.2.2.2.2.2.2.1), u8c (hx.2.2.2.2.2.2.2.2.2.2.2.2.2.2.2.2.2.2.2.2.2.2.2.2.2.2.2.2.2.2.2.2.2.2.2.2.2.2.2.2.2.2.2.2.2.2.2.2.2.2.2.2.2.2.2.2.2.2.1), u8c (hx.2.2.2.2.2.2.2.2.2.2.2.2.2.2.2.2.2.2.2.2.2.2.2.2.2.2.2.2.2.2.2.2.2.2.2.2.2.2.2.2.2.2.2.2.2.2.2.2.2.2.2.2.2.2.2.2.2.1), u8c (hx.2.2.2.2.2.2.2.2.2.2.2.2.2.2.2.2.2.2.2.2.2.2.2.2.2.2.2.2.2.2.2.2.2.2.2.2.2.2.2.2.2.2.2.2.2.2.2.2.2.2.2.2.2.2.2.2.1), u8c (hx.2.2.2.2.2.2.2.2.2.2.2.2.2.2.2.2.2.2.2.2.2.2.2.2.2.2.2.2.2.2.2.2.2.2.2.2.2.2.2.2.2.2.2.2.2.2.2.2.2.2.2.2.2.2.2.1), u8c (hx.2.2.2.2.2.2.2.2.2.2.2.2.2.2.2.2.2.2.2.2.2.2.2.2.2.2.2.2.2.2.2.2.2.2.2.2.2.2.2.2.2.2.2.2.2.2.2.2.2.2.2.2.2.2.1), u8c (hx.2.2.2.2.2.2.2.2.2.2.2.2.2.2.2.2.2.2.2.2.2.2.2.2.2.2.2.2.2.2.2.2.2.2.2.2.2.2.2.2.2.2.2.2.2.2.2.2.2.2.2.2.2.1), u8c (hx.2.2.2.2.2.2.2.2.2.2.2.2.2.2.2.2.2.2.2.2.2.2.2.2.2.2.2.2.2.2.2.2.2.2.2.2.2.2.2.2.2.2.2.2.2.2.2.2.2.2.2.2.1), word_dn (hx.2.2.2.2.2.2.2.2.2.2.2.2.2.2.2.2.2.2.2.2.2.2.2.2.2.2.2.2.2.2.2.2.2.2.2.2.2.2.2.2.2.2.2.2.2.2.2.2.2.2.2.2.1) (hx.2.2.2.2.2.2.2.2.2.2.2.2.2.2.2.2.2.2.2.2.2.2.2.2.2.2.2.2.2.2.2.2.2.2.2.2.2.2.2.2.2.2.2.2.2.2.2.2.2.2.2.2.2.1) (hx.2.2.2.2.2.2.2.2.2.2.2.2.2.2.2.2.2.2.2.2.2.2.2.2.2.2.2.2.2.2.2.2.2.2.2.2.2.2.2.2.2.2.2.2.2.2.2.2.2.2.2.2.2.2.1) (hx.2.2.2.2.2.2.2.2.2.2.2.2.2.2.2.2.2.2.2.2.2.2.2.2.2.2.2.2.2.2.2.2.2.2.2.2.2.2.2.2.2.2.2.2.2.2.2.2.2.2.2.2.2.2.2.1) (hx.2.2.2.2.2.2.2.2.2.2.2.2.2.2.2.2.2.2.2.2.2.2.2.2.2.2.2.2.2.2.2.2.2.2.2.2.2.2.2.2.2.2.2.2.2.2.2.2.2.2.2.2.2.2.2.2.1) (hx.2.2.2.2.2.2.2.2.2.2.2.2.2.2.2.2.2.2.2.2.2.2.2.2.2.2.2.2.2.2.2.2.2.2.2.2.2.2.2.2.2.2.2.2.2.2.2.2.2.2.2.2.2.2.2.2.2.1) (hx.2.2.2.2.2.2.2.2.2.2.2.2.2.2.2.2.2.2.2.2.2.2.2.2.2.2.2.2.2.2.2.2.2.2.2.2.2.2.2.2.2.2.2.2.2.2.2.2.2.2.2.2.2.2.2.2.2.2.1) (hx.2.2.2.2.2.2.2.2.2.2.2.2.2.2.2.2.2.2.2.2.2.2.2.2.2.2.2.2.2.2.2.2.2.2.2.2.2.2.2.2.2.2.2.2.2.2.2.2.2.2.2.2.2.2.2.2.2.2.2.1)] at c50
    rw [u8c (hx.2.2.2.2.2.2.2.2.2.2.2.2.2.2.2.2.2.2.2.2.2.2.2.2.2.2.2.2.2.2.2.2.2.2.2.2.2.2.2.2.2.2.2.2.2.2.2.2.2.2.2.2.2.2.2.2.2.2.2.2.2.2.2.2.2.2.2.1), u8c (hx.2.2.2.2.2.2.2.2.2.2.2.2.2.2.2.2.2.2.2.2.2.2.2.2.2.2.2.2.2.2.2.2.2.2.2.2.2.2.2.2.2.2.2.2.2.2.2.2.2.2.2.2.2.2.2.2.2.2.2.2.2.2.2.2.2.2.1), u8c (hx.2.2.2.2.2.2.2.2.2.2.2.2.2.2.2.2.2.2.2.2.2.2.2.2.2.2.2.2.2.2.2.2.2.2.2.2.2.2.2.2.2.2.2.2.2.2.2.2.2.2.2.2.2.2.2.2.2.2.2.2.2.2.2.2.2.1), u8c (hx.2.2.2.2.2.2.2.2.2.2.2.2.2.2.2.2.2.2.2.2.2.2.2.2.2.2.2.2.2.2.2.2.2.2.2.2.2.2.2.2.2.2.2.2.2.2.2.2.2.2.2.2.2.2.2.2.2.2.2.2.2.2.2.2.1), u8c (hx.2.2.2.2.2.2.2.2.2.2.2.2.2.2.2.2.2.2.2.2.2.2.2.2.2.2.2.2.2.2.2.2.2.2.2.2.2.2.2.2.2.2.2.2.2.2.2.2.2.2.2.2.2.2.2.2.2.2.2.2.2.2.2.1), u8c (hx.2.2.2.2.2.2.2.2.2.2.2.2.2.2.2.2.2.2.2.2.2.2.2.2.2.2.2.2.2.2.2.2.2.2.2.2.2.2.2.2.2.2.2.2.2.2.2.2.2.2.2.2.2.2.2.2.2.2.2.2.2.2.1), u8c (hx.2.2.2.2.2.2.2.2.2.2.2.2.2.2.2.2.2.2.2.2.2.2.2.2.2.2.2.2.2.2.2.2.2.2.2.2.2.2.2.2.2.2.2.2.2.2.2.2.2.2.2.2.2.2.2.2.2.2.2.2.2.1), u8c (hx.2.2.2.2.2.2.2.2.2.2.2.2.2.2.2.2.2.2.2.2.2.2.2.2.2.2.2.2.2.2.2.2.2.2.2.2.2.2.2.2.2.2.2.2.2.2.2.2.2.2.2.2.2.2.2.2.2.2.2.2.1), word_dn (hx.2.2.2.2.2.2.2.2.2.2.2.2.2.2.2.2.2.2.2.2.2.2.2.2.2.2.2.2.2.2.2.2.2.2.2.2.2.2.2.2.2.2.2.2.2.2.2.2.2.2.2.2.2.2.2.2.2.2.2.2.1) (hx.2.2.2.2.2.2.2.2.2.2.2.2.2.2.2.2.2.2.2.2.2.2.2.2.2.2.2.2.2.2.2.2.2.2.2.2.2.2.2.2.2.2.2.2.2.2.2.2.2.2.2.2.2.2.2.2.2.2.2.2.2.1) (hx.2.2.2.2.2.2.2.2.2.2.2.2.2.2.2.2.2.2.2.2.2.2.2.2.2.2.2.2.2.2.2.2.2.2.2.2.2.2.2.2.2.2.2.2.2.2.2.2.2.2.2.2.2.2.2.2.2.2.2.2.2.2.1) (hx.2.2.2.2.2.2.2.2.2.2.2.2.2.2.2.2.2.2.2.2.2.2.2.2.2.2.2.2.2.2.2.2.2.2.2.2.2.2.2.2.2.2.2.2.2.2.2.2.2.2.2.2.2.2.2.2.2.2.2.2.2.2.2.1) (hx.2.2.2.2.2.2.2.2.2.2.2.2.2.2.2.2.2.2.2.2.2.2.2.2.2.2.2.2.2.2.2.2.2.2.2.2.2.2.2.2.2.2.2.2.2.2.2.2.2.2.2.2.2.2.2.2.2.2.2.2.2.2.2.2.1) (hx.2.2.2.2.2.2.2.2.2.2.2.2.2.2.2.2.2.2.2.2.2.2.2.2.2.2.2.2.2.2.2.2.2.2.2.2.2.2.2.2.2.2.2.2.2.2.2.2.2.2.2.2.2.2.2.2.2.2.2.2.2.2.2.2.2.1) (hx.2.2.2.2.2.2.2.2.2.2.2.2.2.2.2.2.2.2.2.2.2.2.2.2.2.2.2.2.2.2.2.2.2.2.2.2.2.2.2.2.2.2.2.2.2.2.2.2.2.2.2.2.2.2.2.2.2.2.2.2.2.2.2.2.2.2.1) (hx.2.2.2.2.2.2.2.2.2.2.2.2.2.2.2.2.2.2.2.2.2.2.2.2.2.2.2.2.2.2.2.2.2.2.2.2.2.2.2.2.2.2.2.2.2.2.2.2.2.2.2.2.2.2.2.2.2.2.2.2.2.2.2.2.2.2.2.1)] at c51
    rw [u8c (hx.2.2.2.2.2.2.2.2.2.2.2.2.2.2.2.2.2.2.2.2.2.2.2.2.2.2.2.2.2.2.2.2.2.2.2.2.2.2.2.2.2.2.2.2.2.2.2.2.2.2.2.2.2.2.2.2.2.2.2.2.2.2.2.2.2.2.2.2.2.2.2.2.2.2.2), u8c (hx.2.2.2.2.2.2.2.2.2.2.2.2.2.2.2.2.2.2.2.2.2.2.2.2.2.2.2.2.2.2.2.2.2.2.2.2.2.2.2.2.2.2.2.2.2.2.2.2.2.2.2.2.2.2.2.2.2.2.2.2.2.2.2.2.2.2.2.2.2.2.2.2.2.2.1), u8c (hx.2.2.2.2.2.2.2.2.2.2.2.2.2.2.2.2.2.2.2.2.2.2.2.2.2.2.2.2.2.2.2.2.2.2.2.2.2.2.2.2.2.2.2.2.2.2.2.2.2.2.2.2.2.2.2.2.2.2.2.2.2.2.2.2.2.2.2.2.2.2.2.2.2.1), u8c (hx.2.2.2.2.2.2.2.2.2.2.2.2.2.2.2.2.2.2.2.2.2.2.2.2.2.2.2.2.2.2.2.2.2.2.2.2.2.2.2.2.2.2.2.2.2.2.2.2.2.2.2.2.2.2.2.2.2.2.2.2.2.2.2.2.2.2.2.2.2.2.2.2.1), u8c (hx.2.2.2.2.2.2.2.2.2.2.2.2.2.2.2.2.2.2.2.2.2.2.2.2.2.2.2.2.2.2.2.2.2.2.2.2.2.2.2.2.2.2.2.2.2.2.2.2.2.2.2.2.2.2.2.2.2.2.2.2.2.2.2.2.2.2.2.2.2.2.2.1), u8c (hx.2.2.2.2.2.2.2.2.2.2.2.2.2.2.2.2.2.2.2.2.2.2.2.2.2.2.2.2.2.2.2.2.2.2.2.2.2.2.2.2.2.2.2.2.2.2.2.2.2.2.2.2.2.2.2.2.2.2.2.2.2.2.2.2.2.2.2.2.2.2.1), u8c (hx.2.2.2.2.2.2.2.2.2.2.2.2.2.2.2.2.2.2.2.2.2.2.2.2.2.2.2.2.2.2.2.2.2.2.2.2.2.2.2.2.2.2.2.2.2.2.2.2.2.2.2.2.2.2.2.2.2.2.2.2.2.2.2.2.2.2.2.2.2.1), u8c (hx.2.2.2.2.2.2.2.2.2.2.2.2.2.2.2.2.2.2.2.2.2.2.2.2.2.2.2.2.2.2.2.2.2.2.2.2.2.2.2.2.2.2.2.2.2.2.2.2.2.2.2.2.2.2.2.2.2.2.2.2.2.2.2.2.2.2.2.2.1), word_dn (hx.2.2.2.2.2.2.2.2.2.2.2.2.2.2.2.2.2.2.2.2.2.2.2.2.2.2.2.2.2.2.2.2.2.2.2.2.2.2.2.2.2.2.2.2.2.2.2.2.2.2.2.2.2.2.2.2.2.2.2.2.2.2.2.2.2.2.2.2.1) (hx.2.2.2.2.2.2.2.2.2.2.2.2.2.2.2.2.2.2.2.2.2.2.2.2.2.2.2.2.2.2.2.2.2.2.2.2.2.2.2.2.2.2.2.2.2.2.2.2.2.2.2.2.2.2.2.2.2.2.2.2.2.2.2.2.2.2.2.2.2.1) (hx.2.2.2.2.2.2.2.2.2.2.2.2.2.2.2.2.2.2.2.2.2.2.2.2.2.2.2.2.2.2.2.2.2.2.2.2.2.2.2.2.2.2.2.2.2.2.2.2.2.2.2.2.2.2.2.2.2.2.2.2.2.2.2.2.2.2.2.2.2.2.1) (hx.2.2.2.2.2.2.2.2.2.2.2.2.2.2.2.2.2.2.2.2.2.2.2.2.2.2.2.2.2.2.2.2.2.2.2.2.2.2.2.2.2.2.2.2.2.2.2.2.2.2.2.2.2.2.2.2.2.2.2.2.2.2.2.2.2.2.2.2.2.2.2.1) (hx.2.2.2.2.2.2.2.2.2.2.2.2.2.2.2.2.2.2.2.2.2.2.2.2.2.2.2.2.2.2.2.2.2.2.2.2.2.2.2.2.2.2.2.2.2.2.2.2.2.2.2.2.2.2.2.2.2.2.2.2.2.2.2.2.2.2.2.2.2.2.2.2.1) (hx.2.2.2.2.2.2.2.2.2.2.2.2.2.2.2.2.2.2.2.2.2.2.2.2.2.2.2.2.2.2.2.2.2.2.2.2.2.2.2.2.2.2.2.2.2.2.2.2.2.2.2.2.2.2.2.2.2.2.2.2.2.2.2.2.2.2.2.2.2.2.2.2.2.1) (hx.2.2.2.2.2.2.2.2.2.2.2.2.2.2.2.2.2.2.2.2.2.2.2.2.2.2.2.2.2.2.2.2.2.2.2.2.2.2.2.2.2.2.2.2.2.2.2.2.2.2.2.2.2.2.2.2.2.2.2.2.2.2.2.2.2.2.2.2.2.2.2.2.2.2.1) (hx.2.2.2.2.2.2.2.2.2.2.2.2.2.2.2.2.2.2.2.2.2.2.2.2.2.2.2.2.2.2.2.2.2.2.2.2.2.2.2.2.2.2.2.2.2.2.2.2.2.2.2.2.2.2.2.2.2.2.2.2.2.2.2.2.2.2.2.2.2.2.2.2.2.2.2)] at c52
    simp only [shas, sword, c0, c45, c46, c47, c48, c49, c50, c51, c52, hi0, hi1, hi2, hi3, hi4, hi5, hi6, hi7, hi8, hi9, hi10, Bool.and_true, Bool.true_and]
  · rw [u8c (hx.2.2.2.2.2.2.2.2.2.2.2.2.2.2.2.2.2.2.2.2.2.2.2.2.2.2.2.2.2.2.2.2.2.2.2.2.2.2.2.2.2.2.2.2.2.2.2.2.2.2.2.2.2.2.2.2.2.2.2.2.2.2.2.2.2.2.2.2.2.2.2.2.2.2.2), u8c (hx.2.2.2.2.2.2.2.2.2.2.2.2.2.2.2.2.2.2.2.2.2.2.2.2.2.2.2.2.2.2.2.2.2.2.2.2.2.2.2.2.2.2.2.2.2.2.2.2.2.2.2.2.2.2.2.2.2.2.2.2.2.2.2.2.2.2.2.2.2.2.2.2.2.2.1), u8c (hx.2.2.2.2.2.2.2.2.2.2.2.2.2.2.2.2.2.2.2.2.2.2.2.2.2.2.2.2.2.2.2.2.2.2.2.2.2.2.2.2.2.2.2.2.2.2.2.2.2.2.2.2.2.2.2.2.2.2.2.2.2.2.2.2.2.2.2.2.2.2.2.2.2.1), u8c (hx.2.2.2.2.2.2.2.2.2.2.2.2.2.2.2.2.2.2.2.2.2.2.2.2.2.2.2.2.2.2.2.2.2.2.2.2.2.2.2.2.2.2.2.2.2.2.2.2.2.2.2.2.2.2.2.2.2.2.2.2.2.2.2.2.2.2.2.2.2.2.2.2.1), u8c (hx.2.2.2.2.2.2.2.2.2.2.2.2.2.2.2.2.2.2.2.2.2.2.2.2.2.2.2.2.2.2.2.2.2.2.2.2.2.2.2.2.2.2.2.2.2.2.2.2.2.2.2.2.2.2.2.2.2.2.2.2.2.2.2.2.2.2.2.2.2.2.2.1), u8c (hx.2.2.2.2.2.2.2.2.2.2.2.2.2.2.2.2.2.2.2.2.2.2.2.2.2.2.2.2.2.2.2.2.2.2.2.2.2.2.2.2.2.2.2.2.2.2.2.2.2.2.2.2.2.2.2.2.2.2.2.2.2.2.2.2.2.2.2.2.2.2.1), u8c (hx.2.2.2.2.2.2.2.2.2.2.2.2.2.2.2.2.2.2.2.2.2.2.2.2.2.2.2.2.2.2.2.2.2.2.2.2.2.2.2.2.2.2.2.2.2.2.2.2.2.2.2.2.2.2.2.2.2.2.2.2.2.2.2.2.2.2.2.2.2.1), u8c (hx.2.2.2.2.2.2.2.2.2.2.2.2.2.2.2.2.2.2.2.2.2.2.2.2.2.2.2.2.2.2.2.2.2.2.2.2.2.2.2.2.2.2.2.2.2.2.2.2.2.2.2.2.2.2.2.2.2.2.2.2.2.2.2.2.2.2.2.2.1), word_dn (hx.2.2.2.2.2.2.2.2.2.2.2.2.2.2.2.2.2.2.2.2.2.2.2.2.2.2.2.2.2.2.2.2.2.2.2.2.2.2.2.2.2.2.2.2.2.2.2.2.2.2.2.2.2.2.2.2.2.2.2.2.2.2.2.2.2.2.2.2.1) (hx.2.2.2.2.2.2.2.2.2.2.2.2.2.2.2.2.2.2.2.2.2.2.2.2.2.2.2.2.2.2.2.2.2.2.2.2.2.2.2.2.2.2.2.2.2.2.2.2.2.2.2.2.2.2.2.2.2.2.2.2.2.2.2.2.2.2.2.2.2.1) (hx.2.2.2.2.2.2.2.2.2.2.2.2.2.2.2.2.2.2.2.2.2.2.2.2.2.2.2.2.2.2.2.2.2.2.2.2.2.2.2.2.2.2.2.2.2.2.2.2.2.2.2.2.2.2.2.2.2.2.2.2.2.2.2.2.2.2.2.2.2.2.1) (hx.2.2.2.2.2.2.2.2.2.2.2.2.2.2.2.2.2.2.2.2.2.2.2.2.2.2.2.2.2.2.2.2.2.2.2.2.2.2.2.2.2.2.2.2.2.2.2.2.2.2.2.2.2.2.2.2.2.2.2.2.2.2.2.2.2.2.2.2.2.2.2.1) (hx.2.2.2.2.2.2.2.2.2.2.2.2.2.2.2.2.2.2.2.2.2.2.2.2.2.2.2.2.2.2.2.2.2.2.2.2.2.2.2.2.2.2.2.2.2.2.2.2.2.2.2.2.2.2.2.2.2.2.2.2.2.2.2.2.2.2.2.2.2.2.2.2.1) (hx.2.2.2.2.2.2.2.2.2.2.2.2.2.2.2.2.2.2.2.2.2.2.2.2.2.2.2.2.2.2.2.2.2.2.2.2.2.2.2.2.2.2.2.2.2.2.2.2.2.2.2.2.2.2.2.2.2.2.2.2.2.2.2.2.2.2.2.2.2.2.2.2.2.1) (hx.2.2.2.2.2.2.2.2.2.2.2.2.2.2.2.2.2.2.2.2.2.2.2.2.2.2.2.2.2.2.2.2.2.2.2.2.2.2.2.2.2.2.2.2.2.2.2.2.2.2.2.2.2.2.2.2.2.2.2.2.2.2.2.2.2.2.2.2.2.2.2.2.2.2.1) (hx.2.2.2.2.2.2.2.2.2.2.2.2.2.2.2.2.2.2.2.2.2.2.2.2.2.2.2.2.2.2.2.2.2.2.2.2.2.2.2.2.2.2.2.2.2.2.2.2.2.2.2.2.2.2.2.2.2.2.2.2.2.2.2.2.2.2.2.2.2.2.2.2.2.2.2)] at c52
    simp only [shas, sword, c52, Bool.false_and, Bool.and_false]
  · rw [u8c (hx.2.2.2.2.2.2.2.2.2.2.2.2.2.2.2.2.2.2.2.2.2.2.2.2.2.2.2.2.2.2.2.2.2.2.2.2.2.2.2.2.2.2.2.2.2.2.2.2.2.2.2.2.2.2.2.2.2.2.2.2.2.2.2.2.2.2.2.1), u8c (hx.2.2.2.2.2.2.2.2.2.2.2.2.2.2.2.2.2.2.2.2.2.2.2.2.2.2.2.2.2.2.2.2.2.2.2.2.2.2.2.2.2.2.2.2.2.2.2.2.2.2.2.2.2.2.2.2.2.2.2.2.2.2.2.2.2.2.1), u8c (hx.2.2.2.2.2.2.2.2.2.2.2.2.2.2.2.2.2.2.2.2.2.2.2.2.2.2.2.2.2.2.2.2.2.2.2.2.2.2.2.2.2.2.2.2.2.2.2.2.2.2.2.2.2.2.2.2.2.2.2.2.2.2.2.2.2.1), u8c (hx.2.2.2.2.2.2.2.2.2.2.2.2.2.2.2.2.2.2.2.2.2.2.2.2.2.2.2.2.2.2.2.2.2.2.2.2.2.2.2.2.2.2.2.2.2.2.2.2.2.2.2.2.2.2.2.2.2.2.2.2.2.2.2.2.1), u8c (hx.2.2.2.2.2.2.2.2.2.2.2.2.2.2.2.2.2.2.2.2.2.2.2.2.2.2.2.2.2.2.2.2.2.2.2.2.2.2.2.2.2.2.2.2.2.2.2.2.2.2.2.2.2.2.2.2.2.2.2.2.2.2.2.1), u8c (hx.2.2.2.2.2.2.2.2.2.2.2.2.2.2.2.2.2.2.2.2.2.2.2.2.2.2.2.2.2.2.2.2.2.2.2.2.2.2.2.2.2.2.2.2.2.2.2.2.2.2.2.2.2.2.2.2.2.2.2.2.2.2.1), u8c (hx.2.2.2.2.2.2.2.2.2.2.2.2.2.2.2.2.2.2.2.2.2.2.2.2.2.2.2.2.2.2.2.2.2.2.2.2.2.2.2.2.2.2.2.2.2.2.2.2.2.2.2.2.2.2.2.2.2.2.2.2.2.1), u8c (hx.2.2.2.2.2.2.2.2.2.2.2.2.2.2.2.2.2.2.2.2.2.2.2.2.2.2.2.2.2.2.2.2.2.2.2.2.2.2.2.2.2.2.2.2.2.2.2.2.2.2.2.2.2.2.2.2.2.2.2.2.1), word_dn (hx.2.2.2.2.2.2.2.2.2.2.2.2.2.2.2.2.2.2.2.2.2.2.2.2.2.2.2.2.2.2.2.2.2.2.2.2.2.2.2.2.2.2.2.2.2.2.2.2.2.2.2.2.2.2.2.2.2.2.2.2.1) (hx.2.2.2.2.2.2.2.2.2.2.2.2.2.2.2.2.2.2.2.2.2.2.2.2.2.2.2.2.2.2.2.2.2.2.2.2.2.2.2.2.2.2.2.2.2.2.2.2.2.2.2.2.2.2.2.2.2.2.2.2.2.1) (hx.2.2.2.2.2.2.2.2.2.2.2.2.2.2.2.2.2.2.2.2.2.2.2.2.2.2.2.2.2.2.2.2.2.2.2.2.2.2.2.2.2.2.2.2.2.2.2.2.2.2.2.2.2.2.2.2.2.2.2.2.2.2.1) (hx.2.2.2.2.2.2.2.2.2.2.2.2.2.2.2.2.2.2.2.2.2.2.2.2.2.2.2.2.2.2.2.2.2.2.2.2.2.2.2.2.2.2.2.2.2.2.2.2.2.2.2.2.2.2.2.2.2.2.2.2.2.2.2.1) (hx.2.2.2.2.2.2.2.2.2.2.2.2.2.2.2.2.2.2.2.2.2.2.2.2.2.2.2.2.2.2.2.2.2.2.2.2.2.2.2.2.2.2.2.2.2.2.2.2.2.2.2.2.2.2.2.2.2.2.2.2.2.2.2.2.1) (hx.2.2.2.2.2.2.2.2.2.2.2.2.2.2.2.2.2.2.2.2.2.2.2.2.2.2.2.2.2.2.2.2.2.2.2.2.2.2.2.2.2.2.2.2.2.2.2.2.2.2.2.2.2.2.2.2.2.2.2.2.2.2.2.2.2.1) (hx.2.2.2.2.2.2.2.2.2.2.2.2.2.2.2.2.2.2.2.2.2.2.2.2.2.2.2.2.2.2.2.2.2.2.2.2.2.2.2.2.2.2.2.2.2.2.2.2.2.2.2.2.2.2.2.2.2.2.2.2.2.2.2.2.2.2.1) (hx.2.2.2.2.2.2.2.2.2.2.2.2.2.2.2.2.2.2.2.2.2.2.2.2.2.2.2.2.2.2.2.2.2.2.2.2.2.2.2.2.2.2.2.2.2.2.2.2.2.2.2.2.2.2.2.2.2.2.2.2.2.2.2.2.2.2.2.1)] at c51
    simp only [shas, sword, c51, Bool.false_and, Bool.and_false]
  · rw [u8c (hx.2.2.2.2.2.2.2.2.2.2.2.2.2.2.2.2.2.2.2.2.2.2.2.2.2.2.2.2.2.2.2.2.2.2.2.2.2.2.2.2.2.2.2.2.2.2.2.2.2.2.2.2.2.2.2.2.2.2.2.1), u8c (hx.2.2.2.2.2.2.2.2.2.2.2.2.2.2.2.2.2.2.2.2.2.2.2.2.2.2.2.2.2.2.2.2.2.2.2.2.2.2.2.2.2.2.2.2.2.2.2.2.2.2.2.2.2.2.2.2.2.2.1), u8c (hx.2.2.2.2.2.2.2.2.2.2.2.2.2.2.2.2.2.2.2.2.2.2.2.2.2.2.2.2.2.2.2.2.2.2.2.2.2.2.2.2.2.2.2.2.2.2.2.2.2.2.2.2.2.2.2.2.2.1), u8c (hx.2.2.2.2.2.2.2.2.2.2.2.2.2.2.2.2.2.2.2.2.2.2.2.2.2.2.2.2.2.2.2.2.2.2.2.2.2.2.2.2.2.2.2.2.2.2.2.2.2.2.2.2.2.2.2.2.1), u8c (hx.2.2.2.2.2.2.2.2.2.2.2.2.2.2.2.2.2.2.2.2.2.2.2.2.2.2.2.2.2.2.2.2.2.2.2.2.2.2.2.2.2.2.2.2.2.2.2.2.2.2.2.2.2.2.2.1), u8c (hx.2.2.2.2.2.2.2.2.2.2.2.2.2.2.2.2.2.2.2.2.2.2.2.2.2.2.2.2.2.2.2.2.2.2.2.2.2.2.2.2.2.2.2.2.2.2.2.2.2.2.2.2.2.2.1), u8c (hx.2.2.2.2.2.2.2.2.2.2.2.2.2.2.2.2.2.2.2.2.2.2.2.2.2.2.2.2.2.2.2.2.2.2.2.2.2.2.2.2.2.2.2.2.2.2.2.2.2.2.2.2.2.1), u8c (hx.2.2.2.2.2.2.2.2.2.2.2.2.2.2.2.2.2.2.2.2.2.2.2.2.2.2.2.2.2.2.2.2.2.2.2.2.2.2.2.2.2.2.2.2.2.2.2.2.2.2.2.2.1), word_dn (hx.2.2.2.2.2.2.2.2.2.2.2.2.2.2.2.2.2.2.2.2.2.2.2.2.2.2.2.2.2.2.2.2.2.2.2.2.2.2.2.2.2.2.2.2.2.2.2.2.2.2.2.2.1) (hx.2.2.2.2.2.2.2.2.2.2.2.2.2.2.2.2.2.2.2.2.2.2.2.2.2.2.2.2.2.2.2.2.2.2.2.2.2.2.2.2.2.2.2.2.2.2.2.2.2.2.2.2.2.1) (hx.2.2.2.2.2.2.2.2.2.2.2.2.2.2.2.2.2.2.2.2.2.2.2.2.2.2.2.2.2.2.2.2.2.2.2.2.2.2.2.2.2.2.2.2.2.2.2.2.2.2.2.2.2.2.1) (hx.2.2.2.2.2.2.2.2.2.2.2.2.2.2.2.2.2.2.2.2.2.2.2.2.2.2.2.2.2.2.2.2.2.2.2.2.2.2.2.2.2.2.2.2.2.2.2.2.2.2.2.2.2.2.2.1) (hx.2.2.2.2.2.2.2.2.2.2.2.2.2.2.2.2.2.2.2.2.2.2.2.2.2.2.2.2.2.2.2.2.2.2.2.2.2.2.2.2.2.2.2.2.2.2.2.2.2.2.2.2.2.2.2.2.1) (hx.2.2.2.2.2.2.2.2.2.2.2.2.2.2.2.2.2.2.2.2.2.2.2.2.2.2.2.2.2.2.2.2.2.2.2.2.2.2.2.2.2.2.2.2.2.2.2.2.2.2.2.2.2.2.2.2.2.1) (hx.2.2.2.2.2.2.2.2.2.2.2.2.2.2.2.2.2.2.2.2.2.2.2.2.2.2.2.2.2.2.2.2.2.2.2.2.2.2.2.2.2.2.2.2.2.2.2.2.2.2.2.2.2.2.2.2.2.2.1) (hx.2.2.2.2.2.2.2.2.2.2.2.2.2.2.2.2.2.2.2.2.2.2.2.2.2.2.2.2.2.2.2.2.2.2.2.2.2.2.2.2.2.2.2.2.2.2.2.2.2.2.2.2.2.2.2.2.2.2.2.1)] at c50
    simp only [shas, sword, c50, Bool.false_and, Bool.and_false]
  · rw [u8c (hx.2.2.2.2.2.2.2.2.2.2.2.2.2.2.2.2.2.2.2.2.2.2.2.2.2.2.2.2.2.2.2.2.2.2.2.2.2.2.2.2.2.2.2.2.2.2.2.2.2.2.2.1), u8c (hx.2.2.2.2.2.2.2.2.2.2.2.2.2.2.2.2.2.2.2.2.2.2.2.2.2.2.2.2.2.2.2.2.2.2.2.2.2.2.2.2.2.2.2.2.2.2.2.2.2.2.1), u8c (hx.2.2.2.2.2.2.2.2.2.2.2.2.2.2.2.2.2.2.2.2.2.2.2.2.2.2.2.2.2.2.2.2.2.2.2.2.2.2.2.2.2.2.2.2.2.2.2.2.2.1), u8c (hx.2.2.2.2.2.2.2.2.2.2.2.2.2.2.2.2.2.2.2.2.2.2.2.2.2.2.2.2.2.2.2.2.2.2.2.2.2.2.2.2.2.2.2.2.2.2.2.2.1), u8c (hx.2.2.2.2.2.2.2.2.2.2.2.2.2.2.2.2.2.2.2.2.2.2.2.2.2.2.2.2.2.2.2.2.2.2.2.2.2.2.2.2.2.2.2.2.2.2.2.1), u8c (hx.2.2.2.2.2.2.2.2.2.2.2.2.2.2.2.2.2.2.2.2.2.2.2.2.2.2.2.2.2.2.2.2.2.2.2.2.2.2.2.2.2.2.2.2.2.2.1), u8c (hx.2.2.2.2.2.2.2.2.2.2.2.2.2.2.2.2.2.2.2.2.2.2.2.2.2.2.2.2.2.2.2.2.2.2.2.2.2.2.2.2.2.2.2.2.2.1), u8c (hx.2.2.2.2.2.2.2.2.2.2.2.2.2.2.2.2.2.2.2.2.2.2.2.2.2.2.2.2.2.2.2.2.2.2.2.2.2.2.2.2.2.2.2.2.1), word_dn (hx.2.2.2.2.2.2.2.2.2.2.2.2.2.2.2.2.2.2.2.2.2.2.2.2.2.2.2.2.2.2.2.2.2.2.2.2.2.2.2.2.2.2.2.2.1) (hx.2.2.2.2.2.2.2.2.2.2.2.2.2.2.2.2.2.2.2.2.2.2.2.2.2.2.2.2.2.2.2.2.2.2.2.2.2.2.2.2.2.2.2.2.2.1) (hx.2.2.2.2.2.2.2.2.2.2.2.2.2.2.2.2.2.2.2.2.2.2.2.2.2.2.2.2.2.2.2.2.2.2.2.2.2.2.2.2.2.2.2.2.2.2.1) (hx.2.2.2.2.2.2.2.2.2.2.2.2.2.2.2.2.2.2.2.2.2.2.2.2.2.2.2.2.2.2.2.2.2.2.2.2.2.2.2.2.2.2.2.2.2.2.2.1) (hx.2.2.2.2.2.2.2.2.2.2.2.2.2.2.2.2.2.2.2.2.2.2.2.2.2.2.2.2.2.2.2.2.2.2.2.2.2.2.2.2.2.2.2.2.2.2.2.2.1) (hx.2.2.2.2.2.2.2.2.2.2.2.2.2.2.2.2.2.2.2.2.2.2.2.2.2.2.2.2.2.2.2.2.2.2.2.2.2.2.2.2.2.2.2.2.2.2.2.2.2.1) (hx.2.2.2.2.2.2.2.2.2.2.2.2.2.2.2.2.2.2.2.2.2.2.2.2.2.2.2.2.2.2.2.2.2.2.2.2.2.2.2.2.2.2.2.2.2.2.2.2.2.2.1) (hx.2.2.2.2.2.2.2.2.2.2.2.2.2.2.2.2.2.2.2.2.2.2.2.2.2.2.2.2.2.2.2.2.2.2.2.2.2.2.2.2.2.2.2.2.2.2.2.2.2.2.2.1)] at c49
    simp only [shas, sword, c49, Bool.false_and, Bool.and_false]
  · rw [u8c (hx.2.2.2.2.2.2.2.2.2.2.2.2.2.2.2.2.2.2.2.2.2.2.2.2.2.2.2.2.2.2.2.2.2.2.2.2.2.2.2.2.2.2.2.1), u8c (hx.2.2.2.2.2.2.2.2.2.2.2.2.2.2.2.2.2.2.2.2.2.2.2.2.2.2.2.2.2.2.2.2.2.2.2.2.2.2.2.2.2.2.1), u8c (hx.2.2.2.2.2.2.2.2.2.2.2.2.2.2.2.2.2.2.2.2.2.2.2.2.2.2.2.2.2.2.2.2.2.2.2.2.2.2.2.2.2.1), u8c (hx.2.2.2.2.2.2.2.2.2.2.2.2.2.2.2.2.2.2.2.2.2.2.2.2.2.2.2.2.2.2.2.2.2.2.2.2.2.2.2.2.1), u8c (hx.2.2.2.2.2.2.2.2.2.2.2.2.2.2.2.2.2.2.2.2.2.2.2.2.2.2.2.2.2.2.2.2.2.2.2.2.2.2.2.1), u8c (hx.2.2.2.2.2.2.2.2.2.2.2.2.2.2.2.2.2.2.2.2.2.2.2.2.2.2.2.2.2.2.2.2.2.2.2.2.2.2.1), u8c (hx.2.2.2.2.2.2.2.2.2.2.2.2.2.2.2.2.2.2.2.2.2.2.2.2.2.2.2.2.2.2.2.2.2.2.2.2.2.1), u8c (hx.2.2.2.2.2.2.2.2.2.2.2.2.2.2.2.2.2.2.2.2.2.2.2.2.2.2.2.2.2.2.2.2.2.2.2.2.1), word_dn (hx.2.2.2.2.2.2.2.2.2.2.2.2.2.2.2.2.2.2.2.2.2.2.2.2.2.2.2.2.2.2.2.2.2.2.2.2.1) (hx.2.2.2.2.2.2.2.2.2.2.2.2.2.2.2.2.2.2.2.2.2.2.2.2.2.2.2.2.2.2.2.2.2.2.2.2.2.1) (hx.2.2.2.2.2.2.2.2.2.2.2.2.2.2.2.2.2.2.2.2.2.2.2.2.2.2.2.2.2.2.2.2.2.2.2.2.2.2.1) (hx.2.2.2.2.2.2.2.2.2.2.2.2.2.2.2.2.2.2.2.2.2.2.2.2.2.2.2.2.2.2.2.2.2.2.2.2.2.2.2.1) (hx.2.2.2.2.2.2.2.2.2.2.2.2.2.2.2.2.2.2.2.2.2.2.2.2.2.2.2.2.2.2.2.2.2.2.2.2.2.2.2.2.1) (hx.2.2.2.2.2.2.2.2.2.2.2.2.2.2.2.2.2.2.2.2.2.2.2.2.2.2.2.2.2.2.2.2.2.2.2.2.2.2.2.2.2.1) (hx.2.2.2.2.2.2.2.2.2.2.2.2.2.2.2.2.2.2.2.2.2.2.2.2.2.2.2.2.2.2.2.2.2.2.2.2.2.2.2.2.2.2.1) (hx.2.2.2.2.2.2.2.2.2.2.2.2.2.2.2.2.2.2.2.2.2.2.2.2.2.2.2.2.2.2.2.2.2.2.2.2.2.2.2.2.2.2.2.1)] at c48
    simp only [shas, sword, c48, Bool.false_and, Bool.and_false]
  · rw [u8c (hx.2.2.2.2.2.2.2.2.2.2.2.2.2.2.2.2.2.2.2.2.2.2.2.2.2.2.2.2.2.2.2.2.2.2.2.1), u8c (hx.2.2.2.2.2.2.2.2.2.2.2.2.2.2.2.2.2.2.2.2.2.2.2.2.2.2.2.2.2.2.2.2.2.2.1), u8c (hx.2.2.2.2.2.2.2.2.2.2.2.2.2.2.2.2.2.2.2.2.2.2.2.2.2.2.2.2.2.2.2.2.2.1), u8c (hx.2.2.2.2.2.2.2.2.2.2.2.2.2.2.2.2.2.2.2.2.2.2.2.2.2.2.2.2.2.2.2.2.1), u8c (hx.2.2.2.2.2.2.2.2.2.2.2.2.2.2.2.2.2.2.2.2.2.2.2.2.2.2.2.2.2.2.2.1), u8c (hx.2.2.2.2.2.2.2.2.2.2.2.2.2.2.2.2.2.2.2.2.2.2.2.2.2.2.2.2.2.2.1), u8c (hx.2.2.2.2.2.2.2.2.2.2.2.2.2.2.2.2.2.2.2.2.2.2.2.2.2.2.2.2.2.1), u8c (hx.2.2.2.2.2.2.2.2.2.2.2.2.2.2.2.2.2.2.2.2.2.2.2.2.2.2.2.2.1), word_dn (hx.2.2.2.2.2.2.2.2.2.2.2.2.2.2.2.2.2.2.2.2.2.2.2.2.2.2.2.2.1) (hx.2.2.2.2.2.2.2.2.2.2.2.2.2.2.2.2.2.2.2.2.2.2.2.2.2.2.2.2.2.1) (hx.2.2.2.2.2.2.2.2.2.2.2.2.2.2.2.2.2.2.2.2.2.2.2.2.2.2.2.2.2.2.1) (hx.2.2.2.2.2.2.2.2.2.2.2.2.2.2.2.2.2.2.2.2.2.2.2.2.2.2.2.2.2.2.2.1) (hx.2.2.2.2.2.2.2.2.2.2.2.2.2.2.2.2.2.2.2.2.2.2.2.2.2.2.2.2.2.2.2.2.1) (hx.2.2.2.2.2.2.2.2.2.2.2.2.2.2.2.2.2.2.2.2.2.2.2.2.2.2.2.2.2.2.2.2.2.1) (hx.2.2.2.2.2.2.2.2.2.2.2.2.2.2.2.2.2.2.2.2.2.2.2.2.2.2.2.2.2.2.2.2.2.2.1) (hx.2.2.2.2.2.2.2.2.2.2.2.2.2.2.2.2.2.2.2.2.2.2.2.2.2.2.2.2.2.2.2.2.2.2.2.1)] at c47
    simp only [shas, sword, c47, Bool.false_and, Bool.and_false]
  · rw [u8c (hx.2.2.2.2.2.2.2.2.2.2.2.2.2.2.2.2.2.2.2.2.2.2.2.2.2.2.2.1), u8c (hx.2.2.2.2.2.2.2.2.2.2.2.2.2.2.2.2.2.2.2.2.2.2.2.2.2.2.1), u8c (hx.2.2.2.2.2.2.2.2.2.2.2.2.2.2.2.2.2.2.2.2.2.2.2.2.2.1), u8c (hx.2.2.2.2.2.2.2.2.2.2.2.2.2.2.2.2.2.2.2.2.2.2.2.2.1), u8c (hx.2.2.2.2.2.2.2.2.2.2.2.2.2.2.2.2.2.2.2.2.2.2.2.1), u8c (hx.2.2.2.2.2.2.2.2.2.2.2.2.2.2.2.2.2.2.2.2.2.2.1), u8c (hx.2.2.2.2.2.2.2.2.2.2.2.2.2.2.2.2.2.2.2.2.2.1), u8c (hx.2.2.2.2.2.2.2.2.2.2.2.2.2.2.2.2.2.2.2.2.1), word_dn (hx.2.2.2.2.2.2.2.2.2.2.2.2.2.2.2.2.2.2.2.2.1) (hx.2.2.2.2.2.2.2.2.2.2.2.2.2.2.2.2.2.2.2.2.2.1) (hx.2.2.2.2.2.2.2.2.2.2.2.2.2.2.2.2.2.2.2.2.2.2.1) (hx.2.2.2.2.2.2.2.2.2.2.2.2.2.2.2.2.2.2.2.2.2.2.2.1) (hx.2.2.2.2.2.2.2.2.2.2.2.2.2.2.2.2.2.2.2.2.2.2.2.2.1) (hx.2.2.2.2.2.2.2.2.2.2.2.2.2.2.2.2.2.2.2.2.2.2.2.2.2.1) (hx.2.2.2.2.2.2.2.2.2.2.2.2.2.2.2.2.2.2.2.2.2.2.2.2.2.2.1) (hx.2.2.2.2.2.2.2.2.2.2.2.2.2.2.2.2.2.2.2.2.2.2.2.2.2.2.2.1)] at c46
    simp only [shas, sword, c46, Bool.false_and, Bool.and_false]
  · rw [u8c (hx.2.2.2.2.2.2.2.2.2.2.2.2.2.2.2.2.2.2.2.1), u8c (hx.2.2.2.2.2.2.2.2.2.2.2.2.2.2.2.2.2.2.1), u8c (hx.2.2.2.2.2.2.2.2.2.2.2.2.2.2.2.2.2.1), u8c (hx.2.2.2.2.2.2.2.2.2.2.2.2.2.2.2.2.1), u8c (hx.2.2.2.2.2.2.2.2.2.2.2.2.2.2.2.1), u8c (hx.2.2.2.2.2.2.2.2.2.2.2.2.2.2.1), u8c (hx.2.2.2.2.2.2.2.2.2.2.2.2.2.1), u8c (hx.2.2.2.2.2.2.2.2.2.2.2.2.1), word_dn (hx.2.2.2.2.2.2.2.2.2.2.2.2.1) (hx.2.2.2.2.2.2.2.2.2.2.2.2.2.1) (hx.2.2.2.2.2.2.2.2.2.2.2.2.2.2.1) (hx.2.2.2.2.2.2.2.2.2.2.2.2.2.2.2.1) (hx.2.2.2.2.2.2.2.2.2.2.2.2.2.2.2.2.1) (hx.2.2.2.2.2.2.2.2.2.2.2.2.2.2.2.2.2.1) (hx.2.2.2.2.2.2.2.2.2.2.2.2.2.2.2.2.2.2.1) (hx.2.2.2.2.2.2.2.2.2.2.2.2.2.2.2.2.2.2.2.1)] at c45
    simp only [shas, sword, c45, Bool.false_and, Bool.and_false]
  · simp only [shas, c0, Bool.false_and]
theorem sK_yhas {sp : Spec} {key : Nat} (hF : sp.F key = sF_yhas) (hP : sp.pre key = fun _ => True := by rfl) : SmOk Try.prog sp (sM_yhas key) :=
  fun_ok (s := sM_yhas key) hF hP (by kernel_rfl) tysok_SdG (smc (sK_ymay rfl) (smc (sK_yhold rfl) sm0)) Try.func30 fn0 sR_yhas (.inl rfl) (for_Sta fun q0 gq0 => for_Snap fun q1 gq1 => fun  hp ρ g => sX_yhas q0 gq0 q1 gq1 ρ g)
def sM_yacc (key : Nat) : Sm := ⟨48, key, [.agg kSta, .one (.int .i64), .one (.int .i64), .one (.int .i64)], [.one .bool], false⟩
def sV_yacc (s : Sta) (lo : Int) (hi : Int) (size : Int) : List Dt := [.z (b2i (smac s lo hi size))]
def sF_yacc : List Dt → List Dt := rd_Sta fun s => rdZ fun lo => rdZ fun hi => rdZ fun size => fun _ => sV_yacc s lo hi size
def sT_yacc : Tr :=
(.call 0 ([.bool]) (.vs 0 171 .nil) 174
(.br (.bvar 174)
(.br (.eq (.var 173) (.lit 1))
(.br (.lt (.var 171) (.lit 0))
(.leaf (.consb (.tt false) .nil))
(.br (.lt (.var 172) (.var 171))
(.leaf (.consb (.tt false) .nil))
(.leaf (.consb (.not (.lt (.bin .sub .i64 (.lit 64) (.var 173)) (.var 172))) .nil))))
(.br (.eq (.var 173) (.lit 2))
(.br (.lt (.var 171) (.lit 0))
(.leaf (.consb (.tt false) .nil))
(.br (.lt (.var 172) (.var 171))
(.leaf (.consb (.tt false) .nil))
(.leaf (.consb (.not (.lt (.bin .sub .i64 (.lit 64) (.var 173)) (.var 172))) .nil))))
(.br (.eq (.var 173) (.lit 4))
(.br (.lt (.var 171) (.lit 0))
(.leaf (.consb (.tt false) .nil))
(.br (.lt (.var 172) (.var 171))
(.leaf (.consb (.tt false) .nil))
(.leaf (.consb (.not (.lt (.bin .sub .i64 (.lit 64) (.var 173)) (.var 172))) .nil))))
(.br (.eq (.var 173) (.lit 8))
(.br (.lt (.var 171) (.lit 0))
(.leaf (.consb (.tt false) .nil))
(.br (.lt (.var 172) (.var 171))
(.leaf (.consb (.tt false) .nil))
(.leaf (.consb (.not (.lt (.bin .sub .i64 (.lit 64) (.var 173)) (.var 172))) .nil))))
(.leaf (.consb (.tt false) .nil))))))
(.leaf (.consb (.tt false) .nil))))
def sP_yacc : Spec := ⟨fun k => match k with | 0 => sF_ymay | _ => fun _ => [], fun k => match k with | _ => fun _ => True⟩
set_option maxRecDepth 100000 in
theorem sR_yacc : treeIs tys_SdG [sM_ymay 0] [] [] [] 200 Try.f48 [.agg kSta, .one (.int .i64), .one (.int .i64), .one (.int .i64)] [.one .bool] false (v_Sta ( .int .i64 :: ( .int .i64 :: ( .int .i64 :: ([]))))) sT_yacc := ⟨by kernel_rfl, by kernel_rfl, by kernel_rfl⟩
set_option maxRecDepth 100000 in
set_option maxHeartbeats 8000000 in
theorem sX_yacc (s : Sta) (hs : Sta.ok s) (lo : Int) (hlo : inK .i64 lo = true) (hi : Int) (hhi : inK .i64 hi = true) (size : Int) (hsize : inK .i64 size = true) (ρ : Env) (g : varsD ρ 0 (v_Sta ( .int .i64 :: ( .int .i64 :: ( .int .i64 :: ([]))))) = (d_Sta s ( .z lo :: ( .z hi :: ( .z size :: ([])))))) : sT_yacc.asks sP_yacc (fun ρ e => e.D ρ = sF_yacc (d_Sta s ( .z lo :: ( .z hi :: ( .z size :: ([])))))) ρ fun _ _ => False := by
  simp only [sF_yacc, rd_Sta_d, rd_Ty_d, rdZ, rdB]
  simp only [d_Sta, d_Ty, v_Sta, v_Ty, varsD, varD, List.cons.injEq, Dt.z.injEq, Dt.l.injEq, b2i_eq_iff, Nat.reduceAdd, and_true] at g
  simp (maxSteps := 10000000) only [sT_yacc, sP_yacc, d_Sta, d_Ty, rd_Sta, rd_Ty, rdZ, sF_ymay, sV_ymay, sF_yacc, sV_yacc, Tr.asks, upd_same, okDs, okD, eqs, E.I, E.B, E.L, E.R, E.D, E.vs, dI, dB, dL, varD, varsD, List.getElem?_cons_zero, List.getElem?_cons_succ, List.cons_append, List.nil_append, Nat.zero_add, Nat.add_zero, Nat.reduceAdd, and_true, true_and, b2i_one, -eq_self, etasX, g]
  intro e; (try simp only [e, etasX, -eq_self]); clear e
  refine ⟨fun c0 => ?_, fun c0 => ?_⟩
  refine ⟨fun c1 => ?_, fun c1 => ?_⟩
  refine ⟨fun c2 => ?_, fun c2 => ?_⟩
  · rw [smac_lo c2]
  refine ⟨fun c3 => ?_, fun c3 => ?_⟩
  · rw [smac_hi c3]
  · rw [smac_is (.inl c1) c2 c3, c0, Bool.and_true]
  refine ⟨fun c4 => ?_, fun c4 => ?_⟩
  refine ⟨fun c5 => ?_, fun c5 => ?_⟩
  · rw [smac_lo c5]
  refine ⟨fun c6 => ?_, fun c6 => ?_⟩
  · rw [smac_hi c6]
  · rw [smac_is (.inr (.inl c4)) c5 c6, c0, Bool.and_true]
  refine ⟨fun c7 => ?_, fun c7 => ?_⟩
  refine ⟨fun c8 => ?_, fun c8 => ?_⟩
  · rw [smac_lo c8]
  refine ⟨fun c9 => ?_, fun c9 => ?_⟩
  · rw [smac_hi c9]
  · rw [smac_is (.inr (.inr (.inl c7))) c8 c9, c0, Bool.and_true]
  refine ⟨fun c10 => ?_, fun c10 => ?_⟩
  refine ⟨fun c11 => ?_, fun c11 => ?_⟩
  · rw [smac_lo c11]
  refine ⟨fun c12 => ?_, fun c12 => ?_⟩
  · rw [smac_hi c12]
  · rw [smac_is (.inr (.inr (.inr c10))) c11 c12, c0, Bool.and_true]
  · rw [smac_size c1 c4 c7 c10]
  · rw [smac_may c0]
theorem sK_yacc {sp : Spec} {key : Nat} (hF : sp.F key = sF_yacc) (hP : sp.pre key = fun _ => True := by rfl) : SmOk Try.prog sp (sM_yacc key) :=
  fun_ok (s := sM_yacc key) hF hP (by kernel_rfl) tysok_SdG (smc (sK_ymay rfl) sm0) Try.func48 fn0 sR_yacc (.inl rfl) (for_Sta fun q0 gq0 => fun x171 gx171 x172 gx172 x173 gx173 hp ρ g => sX_yacc q0 gq0 x171 gx171 x172 gx172 x173 gx173 ρ g)
def sM_yload (key : Nat) : Sm := ⟨20, key, [.agg kSta, .one (.int .i64), .one (.int .i64), .one (.int .i64)], [.agg kTy, .one (.int .i64)], true⟩
def sV_yload (s : Sta) (lo : Int) (hi : Int) (size : Int) : List Dt := d_Ty (sload s lo hi size) ( .z (slerr s lo hi size) :: ([]))
def sF_yload : List Dt → List Dt := rd_Sta fun s => rdZ fun lo => rdZ fun hi => rdZ fun size => fun _ => sV_yload s lo hi size
def sT_yload : Tr :=
(.call 0 ([.bool]) (.vs 0 174 .nil) 174
(.br (.bvar 174)
(.br (.eq (.var 173) (.lit 8))
(.br (.eq (.var 171) (.var 172))
(.br (.eq (.bin .rem .i64 (.var 171) (.lit 8)) (.lit 0))
(.br (.eq (.bin .quo .i64 (.var 171) (.lit 8)) (.lit 0))
(.leaf (.vs 99 9 (.cons (.lit 0) .nil)))
(.br (.eq (.bin .quo .i64 (.var 171) (.lit 8)) (.lit 1))
(.leaf (.vs 108 9 (.cons (.lit 0) .nil)))
(.br (.eq (.bin .quo .i64 (.var 171) (.lit 8)) (.lit 2))
(.leaf (.vs 117 9 (.cons (.lit 0) .nil)))
(.br (.eq (.bin .quo .i64 (.var 171) (.lit 8)) (.lit 3))
(.leaf (.vs 126 9 (.cons (.lit 0) .nil)))
(.br (.eq (.bin .quo .i64 (.var 171) (.lit 8)) (.lit 4))
(.leaf (.vs 135 9 (.cons (.lit 0) .nil)))
(.br (.eq (.bin .quo .i64 (.var 171) (.lit 8)) (.lit 5))
(.leaf (.vs 144 9 (.cons (.lit 0) .nil)))
(.br (.eq (.bin .quo .i64 (.var 171) (.lit 8)) (.lit 6))
(.leaf (.vs 153 9 (.cons (.lit 0) .nil)))
(.br (.eq (.bin .quo .i64 (.var 171) (.lit 8)) (.lit 7))
(.leaf (.vs 162 9 (.cons (.lit 0) .nil)))
.panic))))))))
(.call 1 (kSc) (.cons (.var 173) .nil) 175
(.leaf (.cons (.lit 1) (.vs 175 6 (.cons (.lit 0) (.cons (.lit 0) (.cons (.lit 0) .nil))))))))
(.call 1 (kSc) (.cons (.var 173) .nil) 175
(.leaf (.cons (.lit 1) (.vs 175 6 (.cons (.lit 0) (.cons (.lit 0) (.cons (.lit 0) .nil))))))))
(.call 1 (kSc) (.cons (.var 173) .nil) 175
(.leaf (.cons (.lit 1) (.vs 175 6 (.cons (.lit 0) (.cons (.lit 0) (.cons (.lit 0) .nil))))))))
(.leaf (.cons (.lit 0) (.cons (.lit 0) (.cons (.lit 0) (.cons (.lit 0) (.cons (.lit 0) (.cons (.lit 0) (.cons (.lit 0) (.cons (.lit 0) (.cons (.lit 0) (.cons (.lit 2) .nil)))))))))))))
def sP_yload : Spec := ⟨fun k => match k with | 0 => sF_yacc | 1 => sF_wby | _ => fun _ => [], fun k => match k with | _ => fun _ => True⟩
set_option maxRecDepth 100000 in
theorem sR_yload : treeIs tys_SdG [sM_yacc 0, sM_wby 1] [] [] [] 200 Try.f20 [.agg kSta, .one (.int .i64), .one (.int .i64), .one (.int .i64)] [.agg kTy, .one (.int .i64)] true (v_Sta ( .int .i64 :: ( .int .i64 :: ( .int .i64 :: ([]))))) sT_yload := ⟨by kernel_rfl, by kernel_rfl, by kernel_rfl⟩
set_option maxRecDepth 100000 in
set_option maxHeartbeats 8000000 in
theorem sX_yload (s : Sta) (hs : Sta.ok s) (lo : Int) (hlo : inK .i64 lo = true) (hi : Int) (hhi : inK .i64 hi = true) (size : Int) (hsize : inK .i64 size = true) (ρ : Env) (g : varsD ρ 0 (v_Sta ( .int .i64 :: ( .int .i64 :: ( .int .i64 :: ([]))))) = (d_Sta s ( .z lo :: ( .z hi :: ( .z size :: ([])))))) : sT_yload.asks sP_yload (fun ρ e => e.D ρ = sF_yload (d_Sta s ( .z lo :: ( .z hi :: ( .z size :: ([])))))) ρ fun _ _ => False := by
  simp only [sF_yload, rd_Sta_d, rd_Ty_d, rdZ, rdB]
  simp only [d_Sta, d_Ty, v_Sta, v_Ty, varsD, varD, List.cons.injEq, Dt.z.injEq, Dt.l.injEq, b2i_eq_iff, Nat.reduceAdd, and_true] at g
  simp (maxSteps := 10000000) only [sT_yload, sP_yload, d_Sta, d_Ty, kSc, rd_Sta, rd_Ty, rdZ, sF_yacc, sF_wby, sV_yacc, sV_wby, sF_yload, sV_yload, Tr.asks, upd_same, okDs, okD, eqs, E.I, E.B, E.L, E.R, E.D, E.vs, dI, dB, dL, varD, varsD, List.getElem?_cons_zero, List.getElem?_cons_succ, List.cons_append, List.nil_append, Nat.zero_add, Nat.add_zero, Nat.reduceAdd, and_true, true_and, b2i_one, -eq_self, etasX, g]
  intro e; (try simp only [e, etasX, -eq_self]); clear e
  refine ⟨fun c0 => ?_, fun c0 => ?_⟩
  refine ⟨fun c1 => ?_, fun c1 => ?_⟩
  refine ⟨fun c2 => ?_, fun c2 => ?_⟩
  refine ⟨fun c3 => ?_, fun c3 => ?_⟩
  refine ⟨fun c4 => ?_, fun c4 => ?_⟩
  · rw [(sload_one c0 (sone_y c1 c2 c3)).1, (sload_one c0 (sone_y c1 c2 c3)).2, eqz c4]; rfl
  refine ⟨fun c5 => ?_, fun c5 => ?_⟩
  · rw [(sload_one c0 (sone_y c1 c2 c3)).1, (sload_one c0 (sone_y c1 c2 c3)).2, eqz c5]; rfl
  refine ⟨fun c6 => ?_, fun c6 => ?_⟩
  · rw [(sload_one c0 (sone_y c1 c2 c3)).1, (sload_one c0 (sone_y c1 c2 c3)).2, eqz c6]; rfl
  refine ⟨fun c7 => ?_, fun c7 => ?_⟩
  · rw [(sload_one c0 (sone_y c1 c2 c3)).1, (sload_one c0 (sone_y c1 c2 c3)).2, eqz c7]; rfl
  refine ⟨fun c8 => ?_, fun c8 => ?_⟩
  · rw [(sload_one c0 (sone_y c1 c2 c3)).1, (sload_one c0 (sone_y c1 c2 c3)).2, eqz c8]; rfl
  refine ⟨fun c9 => ?_, fun c9 => ?_⟩
  · rw [(sload_one c0 (sone_y c1 c2 c3)).1, (sload_one c0 (sone_y c1 c2 c3)).2, eqz c9]; rfl
  refine ⟨fun c10 => ?_, fun c10 => ?_⟩
  · rw [(sload_one c0 (sone_y c1 c2 c3)).1, (sload_one c0 (sone_y c1 c2 c3)).2, eqz c10]; rfl
  refine ⟨fun c11 => ?_, fun c11 => ?_⟩
  · rw [(sload_one c0 (sone_y c1 c2 c3)).1, (sload_one c0 (sone_y c1 c2 c3)).2, eqz c11]; rfl
  · exact pick_no c0 rfl c4 c5 c6 c7 c8 c9 c10 c11
  intro e; (try simp only [e, etasX, -eq_self]); clear e
  · rw [(sload_some c0 (sone_n3 c3)).1, (sload_some c0 (sone_n3 c3)).2]; rfl
  intro e; (try simp only [e, etasX, -eq_self]); clear e
  · rw [(sload_some c0 (sone_n2 c2)).1, (sload_some c0 (sone_n2 c2)).2]; rfl
  intro e; (try simp only [e, etasX, -eq_self]); clear e
  · rw [(sload_some c0 (sone_n1 c1)).1, (sload_some c0 (sone_n1 c1)).2]; rfl
  · rw [(sload_no c0).1, (sload_no c0).2]; rfl
theorem sK_yload {sp : Spec} {key : Nat} (hF : sp.F key = sF_yload) (hP : sp.pre key = fun _ => True := by rfl) : SmOk Try.prog sp (sM_yload key) :=
  fun_ok (s := sM_yload key) hF hP (by kernel_rfl) tysok_SdG (smc (sK_yacc rfl) (smc (sK_wby rfl) sm0)) Try.func20 fn0 sR_yload (.inl rfl) (for_Sta fun q0 gq0 => fun x171 gx171 x172 gx172 x173 gx173 hp ρ g => sX_yload q0 gq0 x171 gx171 x172 gx172 x173 gx173 ρ g)
end Go.Proofs.Ytcfnglbcgkappaa

