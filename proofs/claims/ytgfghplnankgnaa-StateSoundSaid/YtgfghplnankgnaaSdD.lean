/- Contracts of what a state holds, by the symbolic run. -/
import Derived.Test.YtgfghplnankgnaaSdB
import Derived.Test.YtgfghplnankgnaaSdW
import Derived.Test.YtgfghplnankgnaaProg
import Derived.Laws.Externs
set_option linter.unusedVariables false
set_option linter.unusedSimpArgs false
namespace Go.Proofs.Ytgfghplnankgnaa
open Go.RowKit Go.ChangeShapes Go.WideShapes

def tys_SdD : List (Nat × TI) := [(2, ⟨false, 1, [.int .i64 (.lit 0)], [], none, some .i64, false, false, none, 8, false, none, false⟩),
 (3, ⟨false, 1, [.int .i64 (.lit 0)], [], none, some .i64, false, false, none, 8, false, none, false⟩),
 (5, ⟨false, 1, [.int .u8 (.lit 0)], [], none, some .u8, false, false, none, 1, false, none, false⟩),
 (22, ⟨false, 1, [.int .i8 (.lit 0)], [], none, some .i8, false, false, none, 1, false, none, false⟩),
 (23, ⟨false, 1, [.int .u64 (.lit 0)], [], none, some .u64, false, false, none, 8, false, none, false⟩),
 (25, ⟨true, 4, [.int .u64 (.lit 0), .int .u64 (.lit 0), .int .i64 (.lit 0), .int .i64 (.lit 0)], [(0, 23), (1, 23), (2, 2), (3, 2)], none, none, false, false, none, 32, false, none, false⟩),
 (27, ⟨true, 2, [.int .u64 (.lit 0), .int .u64 (.lit 0)], [(0, 23), (1, 23)], none, none, false, false, none, 16, false, none, false⟩),
 (29, ⟨true, 6, [.int .u64 (.lit 0), .int .u64 (.lit 0), .int .i64 (.lit 0), .int .i64 (.lit 0), .int .u64 (.lit 0), .int .u64 (.lit 0)], [(0, 25), (4, 27)], none, none, false, false, none, 48, false, none, false⟩),
 (31, ⟨true, 9, [.int .i8 (.lit 0), .int .u64 (.lit 0), .int .u64 (.lit 0), .int .i64 (.lit 0), .int .i64 (.lit 0), .int .u64 (.lit 0), .int .u64 (.lit 0), .int .i64 (.lit 0), .int .i64 (.lit 0)], [(0, 22), (1, 29), (7, 3), (8, 3)], none, none, false, false, none, 72, false, none, false⟩),
 (32, ⟨true, 99, [.int .i8 (.lit 0), .int .u64 (.lit 0), .int .u64 (.lit 0), .int .i64 (.lit 0), .int .i64 (.lit 0), .int .u64 (.lit 0), .int .u64 (.lit 0), .int .i64 (.lit 0), .int .i64 (.lit 0), .int .i8 (.lit 0), .int .u64 (.lit 0), .int .u64 (.lit 0), .int .i64 (.lit 0), .int .i64 (.lit 0), .int .u64 (.lit 0), .int .u64 (.lit 0), .int .i64 (.lit 0), .int .i64 (.lit 0), .int .i8 (.lit 0), .int .u64 (.lit 0), .int .u64 (.lit 0), .int .i64 (.lit 0), .int .i64 (.lit 0), .int .u64 (.lit 0), .int .u64 (.lit 0), .int .i64 (.lit 0), .int .i64 (.lit 0), .int .i8 (.lit 0), .int .u64 (.lit 0), .int .u64 (.lit 0), .int .i64 (.lit 0), .int .i64 (.lit 0), .int .u64 (.lit 0), .int .u64 (.lit 0), .int .i64 (.lit 0), .int .i64 (.lit 0), .int .i8 (.lit 0), .int .u64 (.lit 0), .int .u64 (.lit 0), .int .i64 (.lit 0), .int .i64 (.lit 0), .int .u64 (.lit 0), .int .u64 (.lit 0), .int .i64 (.lit 0), .int .i64 (.lit 0), .int .i8 (.lit 0), .int .u64 (.lit 0), .int .u64 (.lit 0), .int .i64 (.lit 0), .int .i64 (.lit 0), .int .u64 (.lit 0), .int .u64 (.lit 0), .int .i64 (.lit 0), .int .i64 (.lit 0), .int .i8 (.lit 0), .int .u64 (.lit 0), .int .u64 (.lit 0), .int .i64 (.lit 0), .int .i64 (.lit 0), .int .u64 (.lit 0), .int .u64 (.lit 0), .int .i64 (.lit 0), .int .i64 (.lit 0), .int .i8 (.lit 0), .int .u64 (.lit 0), .int .u64 (.lit 0), .int .i64 (.lit 0), .int .i64 (.lit 0), .int .u64 (.lit 0), .int .u64 (.lit 0), .int .i64 (.lit 0), .int .i64 (.lit 0), .int .i8 (.lit 0), .int .u64 (.lit 0), .int .u64 (.lit 0), .int .i64 (.lit 0), .int .i64 (.lit 0), .int .u64 (.lit 0), .int .u64 (.lit 0), .int .i64 (.lit 0), .int .i64 (.lit 0), .int .i8 (.lit 0), .int .u64 (.lit 0), .int .u64 (.lit 0), .int .i64 (.lit 0), .int .i64 (.lit 0), .int .u64 (.lit 0), .int .u64 (.lit 0), .int .i64 (.lit 0), .int .i64 (.lit 0), .int .i8 (.lit 0), .int .u64 (.lit 0), .int .u64 (.lit 0), .int .i64 (.lit 0), .int .i64 (.lit 0), .int .u64 (.lit 0), .int .u64 (.lit 0), .int .i64 (.lit 0), .int .i64 (.lit 0)], [], some (11, 31), none, false, false, none, 792, false, none, false⟩),
 (33, ⟨true, 72, [.int .i8 (.lit 0), .int .u64 (.lit 0), .int .u64 (.lit 0), .int .i64 (.lit 0), .int .i64 (.lit 0), .int .u64 (.lit 0), .int .u64 (.lit 0), .int .i64 (.lit 0), .int .i64 (.lit 0), .int .i8 (.lit 0), .int .u64 (.lit 0), .int .u64 (.lit 0), .int .i64 (.lit 0), .int .i64 (.lit 0), .int .u64 (.lit 0), .int .u64 (.lit 0), .int .i64 (.lit 0), .int .i64 (.lit 0), .int .i8 (.lit 0), .int .u64 (.lit 0), .int .u64 (.lit 0), .int .i64 (.lit 0), .int .i64 (.lit 0), .int .u64 (.lit 0), .int .u64 (.lit 0), .int .i64 (.lit 0), .int .i64 (.lit 0), .int .i8 (.lit 0), .int .u64 (.lit 0), .int .u64 (.lit 0), .int .i64 (.lit 0), .int .i64 (.lit 0), .int .u64 (.lit 0), .int .u64 (.lit 0), .int .i64 (.lit 0), .int .i64 (.lit 0), .int .i8 (.lit 0), .int .u64 (.lit 0), .int .u64 (.lit 0), .int .i64 (.lit 0), .int .i64 (.lit 0), .int .u64 (.lit 0), .int .u64 (.lit 0), .int .i64 (.lit 0), .int .i64 (.lit 0), .int .i8 (.lit 0), .int .u64 (.lit 0), .int .u64 (.lit 0), .int .i64 (.lit 0), .int .i64 (.lit 0), .int .u64 (.lit 0), .int .u64 (.lit 0), .int .i64 (.lit 0), .int .i64 (.lit 0), .int .i8 (.lit 0), .int .u64 (.lit 0), .int .u64 (.lit 0), .int .i64 (.lit 0), .int .i64 (.lit 0), .int .u64 (.lit 0), .int .u64 (.lit 0), .int .i64 (.lit 0), .int .i64 (.lit 0), .int .i8 (.lit 0), .int .u64 (.lit 0), .int .u64 (.lit 0), .int .i64 (.lit 0), .int .i64 (.lit 0), .int .u64 (.lit 0), .int .u64 (.lit 0), .int .i64 (.lit 0), .int .i64 (.lit 0)], [], some (8, 31), none, false, false, none, 576, false, none, false⟩),
 (35, ⟨true, 171, [.int .i8 (.lit 0), .int .u64 (.lit 0), .int .u64 (.lit 0), .int .i64 (.lit 0), .int .i64 (.lit 0), .int .u64 (.lit 0), .int .u64 (.lit 0), .int .i64 (.lit 0), .int .i64 (.lit 0), .int .i8 (.lit 0), .int .u64 (.lit 0), .int .u64 (.lit 0), .int .i64 (.lit 0), .int .i64 (.lit 0), .int .u64 (.lit 0), .int .u64 (.lit 0), .int .i64 (.lit 0), .int .i64 (.lit 0), .int .i8 (.lit 0), .int .u64 (.lit 0), .int .u64 (.lit 0), .int .i64 (.lit 0), .int .i64 (.lit 0), .int .u64 (.lit 0), .int .u64 (.lit 0), .int .i64 (.lit 0), .int .i64 (.lit 0), .int .i8 (.lit 0), .int .u64 (.lit 0), .int .u64 (.lit 0), .int .i64 (.lit 0), .int .i64 (.lit 0), .int .u64 (.lit 0), .int .u64 (.lit 0), .int .i64 (.lit 0), .int .i64 (.lit 0), .int .i8 (.lit 0), .int .u64 (.lit 0), .int .u64 (.lit 0), .int .i64 (.lit 0), .int .i64 (.lit 0), .int .u64 (.lit 0), .int .u64 (.lit 0), .int .i64 (.lit 0), .int .i64 (.lit 0), .int .i8 (.lit 0), .int .u64 (.lit 0), .int .u64 (.lit 0), .int .i64 (.lit 0), .int .i64 (.lit 0), .int .u64 (.lit 0), .int .u64 (.lit 0), .int .i64 (.lit 0), .int .i64 (.lit 0), .int .i8 (.lit 0), .int .u64 (.lit 0), .int .u64 (.lit 0), .int .i64 (.lit 0), .int .i64 (.lit 0), .int .u64 (.lit 0), .int .u64 (.lit 0), .int .i64 (.lit 0), .int .i64 (.lit 0), .int .i8 (.lit 0), .int .u64 (.lit 0), .int .u64 (.lit 0), .int .i64 (.lit 0), .int .i64 (.lit 0), .int .u64 (.lit 0), .int .u64 (.lit 0), .int .i64 (.lit 0), .int .i64 (.lit 0), .int .i8 (.lit 0), .int .u64 (.lit 0), .int .u64 (.lit 0), .int .i64 (.lit 0), .int .i64 (.lit 0), .int .u64 (.lit 0), .int .u64 (.lit 0), .int .i64 (.lit 0), .int .i64 (.lit 0), .int .i8 (.lit 0), .int .u64 (.lit 0), .int .u64 (.lit 0), .int .i64 (.lit 0), .int .i64 (.lit 0), .int .u64 (.lit 0), .int .u64 (.lit 0), .int .i64 (.lit 0), .int .i64 (.lit 0), .int .i8 (.lit 0), .int .u64 (.lit 0), .int .u64 (.lit 0), .int .i64 (.lit 0), .int .i64 (.lit 0), .int .u64 (.lit 0), .int .u64 (.lit 0), .int .i64 (.lit 0), .int .i64 (.lit 0), .int .i8 (.lit 0), .int .u64 (.lit 0), .int .u64 (.lit 0), .int .i64 (.lit 0), .int .i64 (.lit 0), .int .u64 (.lit 0), .int .u64 (.lit 0), .int .i64 (.lit 0), .int .i64 (.lit 0), .int .i8 (.lit 0), .int .u64 (.lit 0), .int .u64 (.lit 0), .int .i64 (.lit 0), .int .i64 (.lit 0), .int .u64 (.lit 0), .int .u64 (.lit 0), .int .i64 (.lit 0), .int .i64 (.lit 0), .int .i8 (.lit 0), .int .u64 (.lit 0), .int .u64 (.lit 0), .int .i64 (.lit 0), .int .i64 (.lit 0), .int .u64 (.lit 0), .int .u64 (.lit 0), .int .i64 (.lit 0), .int .i64 (.lit 0), .int .i8 (.lit 0), .int .u64 (.lit 0), .int .u64 (.lit 0), .int .i64 (.lit 0), .int .i64 (.lit 0), .int .u64 (.lit 0), .int .u64 (.lit 0), .int .i64 (.lit 0), .int .i64 (.lit 0), .int .i8 (.lit 0), .int .u64 (.lit 0), .int .u64 (.lit 0), .int .i64 (.lit 0), .int .i64 (.lit 0), .int .u64 (.lit 0), .int .u64 (.lit 0), .int .i64 (.lit 0), .int .i64 (.lit 0), .int .i8 (.lit 0), .int .u64 (.lit 0), .int .u64 (.lit 0), .int .i64 (.lit 0), .int .i64 (.lit 0), .int .u64 (.lit 0), .int .u64 (.lit 0), .int .i64 (.lit 0), .int .i64 (.lit 0), .int .i8 (.lit 0), .int .u64 (.lit 0), .int .u64 (.lit 0), .int .i64 (.lit 0), .int .i64 (.lit 0), .int .u64 (.lit 0), .int .u64 (.lit 0), .int .i64 (.lit 0), .int .i64 (.lit 0), .int .i8 (.lit 0), .int .u64 (.lit 0), .int .u64 (.lit 0), .int .i64 (.lit 0), .int .i64 (.lit 0), .int .u64 (.lit 0), .int .u64 (.lit 0), .int .i64 (.lit 0), .int .i64 (.lit 0)], [(0, 32), (99, 33)], none, none, false, false, none, 1368, false, none, false⟩),
 (36, ⟨true, 11, [.int .u64 (.lit 0), .int .u64 (.lit 0), .int .u64 (.lit 0), .int .u64 (.lit 0), .int .u64 (.lit 0), .int .u64 (.lit 0), .int .u64 (.lit 0), .int .u64 (.lit 0), .int .u64 (.lit 0), .int .u64 (.lit 0), .int .u64 (.lit 0)], [], some (11, 23), none, false, false, none, 88, false, none, false⟩),
 (37, ⟨true, 64, [.int .u8 (.lit 0), .int .u8 (.lit 0), .int .u8 (.lit 0), .int .u8 (.lit 0), .int .u8 (.lit 0), .int .u8 (.lit 0), .int .u8 (.lit 0), .int .u8 (.lit 0), .int .u8 (.lit 0), .int .u8 (.lit 0), .int .u8 (.lit 0), .int .u8 (.lit 0), .int .u8 (.lit 0), .int .u8 (.lit 0), .int .u8 (.lit 0), .int .u8 (.lit 0), .int .u8 (.lit 0), .int .u8 (.lit 0), .int .u8 (.lit 0), .int .u8 (.lit 0), .int .u8 (.lit 0), .int .u8 (.lit 0), .int .u8 (.lit 0), .int .u8 (.lit 0), .int .u8 (.lit 0), .int .u8 (.lit 0), .int .u8 (.lit 0), .int .u8 (.lit 0), .int .u8 (.lit 0), .int .u8 (.lit 0), .int .u8 (.lit 0), .int .u8 (.lit 0), .int .u8 (.lit 0), .int .u8 (.lit 0), .int .u8 (.lit 0), .int .u8 (.lit 0), .int .u8 (.lit 0), .int .u8 (.lit 0), .int .u8 (.lit 0), .int .u8 (.lit 0), .int .u8 (.lit 0), .int .u8 (.lit 0), .int .u8 (.lit 0), .int .u8 (.lit 0), .int .u8 (.lit 0), .int .u8 (.lit 0), .int .u8 (.lit 0), .int .u8 (.lit 0), .int .u8 (.lit 0), .int .u8 (.lit 0), .int .u8 (.lit 0), .int .u8 (.lit 0), .int .u8 (.lit 0), .int .u8 (.lit 0), .int .u8 (.lit 0), .int .u8 (.lit 0), .int .u8 (.lit 0), .int .u8 (.lit 0), .int .u8 (.lit 0), .int .u8 (.lit 0), .int .u8 (.lit 0), .int .u8 (.lit 0), .int .u8 (.lit 0), .int .u8 (.lit 0)], [], some (64, 5), none, false, false, none, 64, false, none, false⟩),
 (39, ⟨true, 76, [.int .u64 (.lit 0), .int .u64 (.lit 0), .int .u64 (.lit 0), .int .u64 (.lit 0), .int .u64 (.lit 0), .int .u64 (.lit 0), .int .u64 (.lit 0), .int .u64 (.lit 0), .int .u64 (.lit 0), .int .u64 (.lit 0), .int .u64 (.lit 0), .int .i64 (.lit 0), .int .u8 (.lit 0), .int .u8 (.lit 0), .int .u8 (.lit 0), .int .u8 (.lit 0), .int .u8 (.lit 0), .int .u8 (.lit 0), .int .u8 (.lit 0), .int .u8 (.lit 0), .int .u8 (.lit 0), .int .u8 (.lit 0), .int .u8 (.lit 0), .int .u8 (.lit 0), .int .u8 (.lit 0), .int .u8 (.lit 0), .int .u8 (.lit 0), .int .u8 (.lit 0), .int .u8 (.lit 0), .int .u8 (.lit 0), .int .u8 (.lit 0), .int .u8 (.lit 0), .int .u8 (.lit 0), .int .u8 (.lit 0), .int .u8 (.lit 0), .int .u8 (.lit 0), .int .u8 (.lit 0), .int .u8 (.lit 0), .int .u8 (.lit 0), .int .u8 (.lit 0), .int .u8 (.lit 0), .int .u8 (.lit 0), .int .u8 (.lit 0), .int .u8 (.lit 0), .int .u8 (.lit 0), .int .u8 (.lit 0), .int .u8 (.lit 0), .int .u8 (.lit 0), .int .u8 (.lit 0), .int .u8 (.lit 0), .int .u8 (.lit 0), .int .u8 (.lit 0), .int .u8 (.lit 0), .int .u8 (.lit 0), .int .u8 (.lit 0), .int .u8 (.lit 0), .int .u8 (.lit 0), .int .u8 (.lit 0), .int .u8 (.lit 0), .int .u8 (.lit 0), .int .u8 (.lit 0), .int .u8 (.lit 0), .int .u8 (.lit 0), .int .u8 (.lit 0), .int .u8 (.lit 0), .int .u8 (.lit 0), .int .u8 (.lit 0), .int .u8 (.lit 0), .int .u8 (.lit 0), .int .u8 (.lit 0), .int .u8 (.lit 0), .int .u8 (.lit 0), .int .u8 (.lit 0), .int .u8 (.lit 0), .int .u8 (.lit 0), .int .u8 (.lit 0)], [(0, 36), (11, 3), (12, 37)], none, none, false, false, none, 160, false, none, false⟩)]
set_option maxRecDepth 100000 in
theorem tysck_SdD : (tys_SdD.all fun p => ckTI Try.prog p.1 p.2) = true := by kernel_rfl
theorem tyseq_SdD : (tys_SdD.all fun p => !p.2.eqok) = true := by kernel_rfl
theorem tyskn_SdD : (tys_SdD.all fun p => !p.2.keyok) = true := by kernel_rfl
theorem tysok_SdD : ∀ t i, (t, i) ∈ tys_SdD → TIok Try.prog t i := by
  intro t i h
  refine TIok_of (all_at (f := ckTI Try.prog) tysck_SdD h) (fun he => ?_) (fun he => ?_) (fun he => ?_)
  · have h1 := List.all_eq_true.1 tyseq_SdD (t, i) h
    simp [he] at h1
  · have h1 := List.all_eq_true.1 tyseq_SdD (t, i) h
    simp [he] at h1
  · have h1 := List.all_eq_true.1 tyskn_SdD (t, i) h
    simp [he] at h1
def sM_tword0 (key : Nat) : Sm := ⟨16, key, [.agg kFr, .one (.lit .i64 0)], [.one (.int .u64)], false⟩
def sV_tword0 (f : Fr) : List Dt := [.z (w8 f.f0 f.f1 f.f2 f.f3 f.f4 f.f5 f.f6 f.f7)]
def sF_tword0 : List Dt → List Dt := rd_Fr fun f => fun _ => sV_tword0 f
def sT_tword0 : Tr :=
(.leaf (.cons (.bin .or .u64 (.bin .or .u64 (.bin .or .u64 (.bin .or .u64 (.bin .or .u64 (.bin .or .u64 (.bin .or .u64 (.bin .or .u64 (.lit 0) (.bin .shl .u64 (.conv .u64 (.var 0)) (.lit 0))) (.bin .shl .u64 (.conv .u64 (.var 1)) (.lit 8))) (.bin .shl .u64 (.conv .u64 (.var 2)) (.lit 16))) (.bin .shl .u64 (.conv .u64 (.var 3)) (.lit 24))) (.bin .shl .u64 (.conv .u64 (.var 4)) (.lit 32))) (.bin .shl .u64 (.conv .u64 (.var 5)) (.lit 40))) (.bin .shl .u64 (.conv .u64 (.var 6)) (.lit 48))) (.bin .shl .u64 (.conv .u64 (.var 7)) (.lit 56))) .nil))
def sP_tword0 : Spec := ⟨fun k => match k with | _ => fun _ => [], fun k => match k with | _ => fun _ => True⟩
set_option maxRecDepth 100000 in
theorem sR_tword0 : treeIs tys_SdD [] [] [] [] 200 Try.f16 [.agg kFr, .one (.lit .i64 0)] [.one (.int .u64)] false (v_Fr ([])) sT_tword0 := ⟨by kernel_rfl, by kernel_rfl, by kernel_rfl⟩
set_option maxRecDepth 100000 in
set_option maxHeartbeats 8000000 in
theorem sX_tword0 (f : Fr) (hf : Fr.ok f)  (ρ : Env) (g : varsD ρ 0 (v_Fr ([])) = (d_Fr f ([]))) : sT_tword0.asks sP_tword0 (fun ρ e => e.D ρ = sF_tword0 (d_Fr f ([]))) ρ fun _ _ => False := by
  simp only [sF_tword0, rd_Fr_d, rdZ, rdB]
  simp only [d_Fr, v_Fr, varsD, varD, List.cons.injEq, Dt.z.injEq, Dt.l.injEq, b2i_eq_iff, Nat.reduceAdd, and_true] at g
  simp only [sT_tword0, sP_tword0, d_Fr, rd_Fr, rd8, rdZ, sF_tword0, sV_tword0, Tr.asks, upd_same, okDs, okD, eqs, E.I, E.B, E.L, E.R, E.D, E.vs, dI, dB, dL, varD, varsD, List.getElem?_cons_zero, List.getElem?_cons_succ, List.cons_append, List.nil_append, Nat.zero_add, Nat.add_zero, Nat.reduceAdd, and_true, true_and, b2i_one, -eq_self, etasX, g]
  · exact zi (by rw [u8c (hf.1), u8c (hf.2.1), u8c (hf.2.2.1), u8c (hf.2.2.2.1), u8c (hf.2.2.2.2.1), u8c (hf.2.2.2.2.2.1), u8c (hf.2.2.2.2.2.2.1), u8c (hf.2.2.2.2.2.2.2.1)]; exact word_up (hf.1) (hf.2.1) (hf.2.2.1) (hf.2.2.2.1) (hf.2.2.2.2.1) (hf.2.2.2.2.2.1) (hf.2.2.2.2.2.2.1) (hf.2.2.2.2.2.2.2.1))
theorem sK_tword0 {sp : Spec} {key : Nat} (hF : sp.F key = sF_tword0) (hP : sp.pre key = fun _ => True := by rfl) : SmOk Try.prog sp (sM_tword0 key) :=
  fun_ok (s := sM_tword0 key) hF hP (by kernel_rfl) tysok_SdD (sm0) Try.func16 fn0 sR_tword0 (.inl rfl) (for_Fr fun q0 gq0 => fun  hp ρ g => sX_tword0 q0 gq0 ρ g)
def sM_tword1 (key : Nat) : Sm := ⟨16, key, [.agg kFr, .one (.lit .i64 1)], [.one (.int .u64)], false⟩
def sV_tword1 (f : Fr) : List Dt := [.z (w8 f.f8 f.f9 f.f10 f.f11 f.f12 f.f13 f.f14 f.f15)]
def sF_tword1 : List Dt → List Dt := rd_Fr fun f => fun _ => sV_tword1 f
def sT_tword1 : Tr :=
(.leaf (.cons (.bin .or .u64 (.bin .or .u64 (.bin .or .u64 (.bin .or .u64 (.bin .or .u64 (.bin .or .u64 (.bin .or .u64 (.bin .or .u64 (.lit 0) (.bin .shl .u64 (.conv .u64 (.var 8)) (.lit 0))) (.bin .shl .u64 (.conv .u64 (.var 9)) (.lit 8))) (.bin .shl .u64 (.conv .u64 (.var 10)) (.lit 16))) (.bin .shl .u64 (.conv .u64 (.var 11)) (.lit 24))) (.bin .shl .u64 (.conv .u64 (.var 12)) (.lit 32))) (.bin .shl .u64 (.conv .u64 (.var 13)) (.lit 40))) (.bin .shl .u64 (.conv .u64 (.var 14)) (.lit 48))) (.bin .shl .u64 (.conv .u64 (.var 15)) (.lit 56))) .nil))
def sP_tword1 : Spec := ⟨fun k => match k with | _ => fun _ => [], fun k => match k with | _ => fun _ => True⟩
set_option maxRecDepth 100000 in
theorem sR_tword1 : treeIs tys_SdD [] [] [] [] 200 Try.f16 [.agg kFr, .one (.lit .i64 1)] [.one (.int .u64)] false (v_Fr ([])) sT_tword1 := ⟨by kernel_rfl, by kernel_rfl, by kernel_rfl⟩
set_option maxRecDepth 100000 in
set_option maxHeartbeats 8000000 in
theorem sX_tword1 (f : Fr) (hf : Fr.ok f)  (ρ : Env) (g : varsD ρ 0 (v_Fr ([])) = (d_Fr f ([]))) : sT_tword1.asks sP_tword1 (fun ρ e => e.D ρ = sF_tword1 (d_Fr f ([]))) ρ fun _ _ => False := by
  simp only [sF_tword1, rd_Fr_d, rdZ, rdB]
  simp only [d_Fr, v_Fr, varsD, varD, List.cons.injEq, Dt.z.injEq, Dt.l.injEq, b2i_eq_iff, Nat.reduceAdd, and_true] at g
  simp only [sT_tword1, sP_tword1, d_Fr, rd_Fr, rd8, rdZ, sF_tword1, sV_tword1, Tr.asks, upd_same, okDs, okD, eqs, E.I, E.B, E.L, E.R, E.D, E.vs, dI, dB, dL, varD, varsD, List.getElem?_cons_zero, List.getElem?_cons_succ, List.cons_append, List.nil_append, Nat.zero_add, Nat.add_zero, Nat.reduceAdd, and_true, true_and, b2i_one, -eq_self, etasX, g]
  · exact zi (by rw [u8c (hf.2.2.2.2.2.2.2.2.1), u8c (hf.2.2.2.2.2.2.2.2.2.1), u8c (hf.2.2.2.2.2.2.2.2.2.2.1), u8c (hf.2.2.2.2.2.2.2.2.2.2.2.1), u8c (hf.2.2.2.2.2.2.2.2.2.2.2.2.1), u8c (hf.2.2.2.2.2.2.2.2.2.2.2.2.2.1), u8c (hf.2.2.2.2.2.2.2.2.2.2.2.2.2.2.1), u8c (hf.2.2.2.2.2.2.2.2.2.2.2.2.2.2.2.1)]; exact word_up (hf.2.2.2.2.2.2.2.2.1) (hf.2.2.2.2.2.2.2.2.2.1) (hf.2.2.2.2.2.2.2.2.2.2.1) (hf.2.2.2.2.2.2.2.2.2.2.2.1) (hf.2.2.2.2.2.2.2.2.2.2.2.2.1) (hf.2.2.2.2.2.2.2.2.2.2.2.2.2.1) (hf.2.2.2.2.2.2.2.2.2.2.2.2.2.2.1) (hf.2.2.2.2.2.2.2.2.2.2.2.2.2.2.2.1))
theorem sK_tword1 {sp : Spec} {key : Nat} (hF : sp.F key = sF_tword1) (hP : sp.pre key = fun _ => True := by rfl) : SmOk Try.prog sp (sM_tword1 key) :=
  fun_ok (s := sM_tword1 key) hF hP (by kernel_rfl) tysok_SdD (sm0) Try.func16 fn0 sR_tword1 (.inl rfl) (for_Fr fun q0 gq0 => fun  hp ρ g => sX_tword1 q0 gq0 ρ g)
def sM_tword2 (key : Nat) : Sm := ⟨16, key, [.agg kFr, .one (.lit .i64 2)], [.one (.int .u64)], false⟩
def sV_tword2 (f : Fr) : List Dt := [.z (w8 f.f16 f.f17 f.f18 f.f19 f.f20 f.f21 f.f22 f.f23)]
def sF_tword2 : List Dt → List Dt := rd_Fr fun f => fun _ => sV_tword2 f
def sT_tword2 : Tr :=
(.leaf (.cons (.bin .or .u64 (.bin .or .u64 (.bin .or .u64 (.bin .or .u64 (.bin .or .u64 (.bin .or .u64 (.bin .or .u64 (.bin .or .u64 (.lit 0) (.bin .shl .u64 (.conv .u64 (.var 16)) (.lit 0))) (.bin .shl .u64 (.conv .u64 (.var 17)) (.lit 8))) (.bin .shl .u64 (.conv .u64 (.var 18)) (.lit 16))) (.bin .shl .u64 (.conv .u64 (.var 19)) (.lit 24))) (.bin .shl .u64 (.conv .u64 (.var 20)) (.lit 32))) (.bin .shl .u64 (.conv .u64 (.var 21)) (.lit 40))) (.bin .shl .u64 (.conv .u64 (.var 22)) (.lit 48))) (.bin .shl .u64 (.conv .u64 (.var 23)) (.lit 56))) .nil))
def sP_tword2 : Spec := ⟨fun k => match k with | _ => fun _ => [], fun k => match k with | _ => fun _ => True⟩
set_option maxRecDepth 100000 in
theorem sR_tword2 : treeIs tys_SdD [] [] [] [] 200 Try.f16 [.agg kFr, .one (.lit .i64 2)] [.one (.int .u64)] false (v_Fr ([])) sT_tword2 := ⟨by kernel_rfl, by kernel_rfl, by kernel_rfl⟩
set_option maxRecDepth 100000 in
set_option maxHeartbeats 8000000 in
theorem sX_tword2 (f : Fr) (hf : Fr.ok f)  (ρ : Env) (g : varsD ρ 0 (v_Fr ([])) = (d_Fr f ([]))) : sT_tword2.asks sP_tword2 (fun ρ e => e.D ρ = sF_tword2 (d_Fr f ([]))) ρ fun _ _ => False := by
  simp only [sF_tword2, rd_Fr_d, rdZ, rdB]
  simp only [d_Fr, v_Fr, varsD, varD, List.cons.injEq, Dt.z.injEq, Dt.l.injEq, b2i_eq_iff, Nat.reduceAdd, and_true] at g
  simp only [sT_tword2, sP_tword2, d_Fr, rd_Fr, rd8, rdZ, sF_tword2, sV_tword2, Tr.asks, upd_same, okDs, okD, eqs, E.I, E.B, E.L, E.R, E.D, E.vs, dI, dB, dL, varD, varsD, List.getElem?_cons_zero, List.getElem?_cons_succ, List.cons_append, List.nil_append, Nat.zero_add, Nat.add_zero, Nat.reduceAdd, and_true, true_and, b2i_one, -eq_self, etasX, g]
  · exact zi (by rw [u8c (hf.2.2.2.2.2.2.2.2.2.2.2.2.2.2.2.2.1), u8c (hf.2.2.2.2.2.2.2.2.2.2.2.2.2.2.2.2.2.1), u8c (hf.2.2.2.2.2.2.2.2.2.2.2.2.2.2.2.2.2.2.1), u8c (hf.2.2.2.2.2.2.2.2.2.2.2.2.2.2.2.2.2.2.2.1), u8c (hf.2.2.2.2.2.2.2.2.2.2.2.2.2.2.2.2.2.2.2.2.1), u8c (hf.2.2.2.2.2.2.2.2.2.2.2.2.2.2.2.2.2.2.2.2.2.1), u8c (hf.2.2.2.2.2.2.2.2.2.2.2.2.2.2.2.2.2.2.2.2.2.2.1), u8c (hf.2.2.2.2.2.2.2.2.2.2.2.2.2.2.2.2.2.2.2.2.2.2.2.1)]; exact word_up (hf.2.2.2.2.2.2.2.2.2.2.2.2.2.2.2.2.1) (hf.2.2.2.2.2.2.2.2.2.2.2.2.2.2.2.2.2.1) (hf.2.2.2.2.2.2.2.2.2.2.2.2.2.2.2.2.2.2.1) (hf.2.2.2.2.2.2.2.2.2.2.2.2.2.2.2.2.2.2.2.1) (hf.2.2.2.2.2.2.2.2.2.2.2.2.2.2.2.2.2.2.2.2.1) (hf.2.2.2.2.2.2.2.2.2.2.2.2.2.2.2.2.2.2.2.2.2.1) (hf.2.2.2.2.2.2.2.2.2.2.2.2.2.2.2.2.2.2.2.2.2.2.1) (hf.2.2.2.2.2.2.2.2.2.2.2.2.2.2.2.2.2.2.2.2.2.2.2.1))
theorem sK_tword2 {sp : Spec} {key : Nat} (hF : sp.F key = sF_tword2) (hP : sp.pre key = fun _ => True := by rfl) : SmOk Try.prog sp (sM_tword2 key) :=
  fun_ok (s := sM_tword2 key) hF hP (by kernel_rfl) tysok_SdD (sm0) Try.func16 fn0 sR_tword2 (.inl rfl) (for_Fr fun q0 gq0 => fun  hp ρ g => sX_tword2 q0 gq0 ρ g)
def sM_tword3 (key : Nat) : Sm := ⟨16, key, [.agg kFr, .one (.lit .i64 3)], [.one (.int .u64)], false⟩
def sV_tword3 (f : Fr) : List Dt := [.z (w8 f.f24 f.f25 f.f26 f.f27 f.f28 f.f29 f.f30 f.f31)]
def sF_tword3 : List Dt → List Dt := rd_Fr fun f => fun _ => sV_tword3 f
def sT_tword3 : Tr :=
(.leaf (.cons (.bin .or .u64 (.bin .or .u64 (.bin .or .u64 (.bin .or .u64 (.bin .or .u64 (.bin .or .u64 (.bin .or .u64 (.bin .or .u64 (.lit 0) (.bin .shl .u64 (.conv .u64 (.var 24)) (.lit 0))) (.bin .shl .u64 (.conv .u64 (.var 25)) (.lit 8))) (.bin .shl .u64 (.conv .u64 (.var 26)) (.lit 16))) (.bin .shl .u64 (.conv .u64 (.var 27)) (.lit 24))) (.bin .shl .u64 (.conv .u64 (.var 28)) (.lit 32))) (.bin .shl .u64 (.conv .u64 (.var 29)) (.lit 40))) (.bin .shl .u64 (.conv .u64 (.var 30)) (.lit 48))) (.bin .shl .u64 (.conv .u64 (.var 31)) (.lit 56))) .nil))
def sP_tword3 : Spec := ⟨fun k => match k with | _ => fun _ => [], fun k => match k with | _ => fun _ => True⟩
set_option maxRecDepth 100000 in
theorem sR_tword3 : treeIs tys_SdD [] [] [] [] 200 Try.f16 [.agg kFr, .one (.lit .i64 3)] [.one (.int .u64)] false (v_Fr ([])) sT_tword3 := ⟨by kernel_rfl, by kernel_rfl, by kernel_rfl⟩
set_option maxRecDepth 100000 in
set_option maxHeartbeats 8000000 in
theorem sX_tword3 (f : Fr) (hf : Fr.ok f)  (ρ : Env) (g : varsD ρ 0 (v_Fr ([])) = (d_Fr f ([]))) : sT_tword3.asks sP_tword3 (fun ρ e => e.D ρ = sF_tword3 (d_Fr f ([]))) ρ fun _ _ => False := by
  simp only [sF_tword3, rd_Fr_d, rdZ, rdB]
  simp only [d_Fr, v_Fr, varsD, varD, List.cons.injEq, Dt.z.injEq, Dt.l.injEq, b2i_eq_iff, Nat.reduceAdd, and_true] at g
  simp only [sT_tword3, sP_tword3, d_Fr, rd_Fr, rd8, rdZ, sF_tword3, sV_tword3, Tr.asks, upd_same, okDs, okD, eqs, E.I, E.B, E.L, E.R, E.D, E.vs, dI, dB, dL, varD, varsD, List.getElem?_cons_zero, List.getElem?_cons_succ, List.cons_append, List.nil_append, Nat.zero_add, Nat.add_zero, Nat.reduceAdd, and_true, true_and, b2i_one, -eq_self, etasX, g]
  · exact zi (by rw [u8c (hf.2.2.2.2.2.2.2.2.2.2.2.2.2.2.2.2.2.2.2.2.2.2.2.2.1), u8c (hf.2.2.2.2.2.2.2.2.2.2.2.2.2.2.2.2.2.2.2.2.2.2.2.2.2.1), u8c (hf.2.2.2.2.2.2.2.2.2.2.2.2.2.2.2.2.2.2.2.2.2.2.2.2.2.2.1), u8c (hf.2.2.2.2.2.2.2.2.2.2.2.2.2.2.2.2.2.2.2.2.2.2.2.2.2.2.2.1), u8c (hf.2.2.2.2.2.2.2.2.2.2.2.2.2.2.2.2.2.2.2.2.2.2.2.2.2.2.2.2.1), u8c (hf.2.2.2.2.2.2.2.2.2.2.2.2.2.2.2.2.2.2.2.2.2.2.2.2.2.2.2.2.2.1), u8c (hf.2.2.2.2.2.2.2.2.2.2.2.2.2.2.2.2.2.2.2.2.2.2.2.2.2.2.2.2.2.2.1), u8c (hf.2.2.2.2.2.2.2.2.2.2.2.2.2.2.2.2.2.2.2.2.2.2.2.2.2.2.2.2.2.2.2.1)]; exact word_up (hf.2.2.2.2.2.2.2.2.2.2.2.2.2.2.2.2.2.2.2.2.2.2.2.2.1) (hf.2.2.2.2.2.2.2.2.2.2.2.2.2.2.2.2.2.2.2.2.2.2.2.2.2.1) (hf.2.2.2.2.2.2.2.2.2.2.2.2.2.2.2.2.2.2.2.2.2.2.2.2.2.2.1) (hf.2.2.2.2.2.2.2.2.2.2.2.2.2.2.2.2.2.2.2.2.2.2.2.2.2.2.2.1) (hf.2.2.2.2.2.2.2.2.2.2.2.2.2.2.2.2.2.2.2.2.2.2.2.2.2.2.2.2.1) (hf.2.2.2.2.2.2.2.2.2.2.2.2.2.2.2.2.2.2.2.2.2.2.2.2.2.2.2.2.2.1) (hf.2.2.2.2.2.2.2.2.2.2.2.2.2.2.2.2.2.2.2.2.2.2.2.2.2.2.2.2.2.2.1) (hf.2.2.2.2.2.2.2.2.2.2.2.2.2.2.2.2.2.2.2.2.2.2.2.2.2.2.2.2.2.2.2.1))
theorem sK_tword3 {sp : Spec} {key : Nat} (hF : sp.F key = sF_tword3) (hP : sp.pre key = fun _ => True := by rfl) : SmOk Try.prog sp (sM_tword3 key) :=
  fun_ok (s := sM_tword3 key) hF hP (by kernel_rfl) tysok_SdD (sm0) Try.func16 fn0 sR_tword3 (.inl rfl) (for_Fr fun q0 gq0 => fun  hp ρ g => sX_tword3 q0 gq0 ρ g)
def sM_tword4 (key : Nat) : Sm := ⟨16, key, [.agg kFr, .one (.lit .i64 4)], [.one (.int .u64)], false⟩
def sV_tword4 (f : Fr) : List Dt := [.z (w8 f.f32 f.f33 f.f34 f.f35 f.f36 f.f37 f.f38 f.f39)]
def sF_tword4 : List Dt → List Dt := rd_Fr fun f => fun _ => sV_tword4 f
def sT_tword4 : Tr :=
(.leaf (.cons (.bin .or .u64 (.bin .or .u64 (.bin .or .u64 (.bin .or .u64 (.bin .or .u64 (.bin .or .u64 (.bin .or .u64 (.bin .or .u64 (.lit 0) (.bin .shl .u64 (.conv .u64 (.var 32)) (.lit 0))) (.bin .shl .u64 (.conv .u64 (.var 33)) (.lit 8))) (.bin .shl .u64 (.conv .u64 (.var 34)) (.lit 16))) (.bin .shl .u64 (.conv .u64 (.var 35)) (.lit 24))) (.bin .shl .u64 (.conv .u64 (.var 36)) (.lit 32))) (.bin .shl .u64 (.conv .u64 (.var 37)) (.lit 40))) (.bin .shl .u64 (.conv .u64 (.var 38)) (.lit 48))) (.bin .shl .u64 (.conv .u64 (.var 39)) (.lit 56))) .nil))
def sP_tword4 : Spec := ⟨fun k => match k with | _ => fun _ => [], fun k => match k with | _ => fun _ => True⟩
set_option maxRecDepth 100000 in
theorem sR_tword4 : treeIs tys_SdD [] [] [] [] 200 Try.f16 [.agg kFr, .one (.lit .i64 4)] [.one (.int .u64)] false (v_Fr ([])) sT_tword4 := ⟨by kernel_rfl, by kernel_rfl, by kernel_rfl⟩
set_option maxRecDepth 100000 in
set_option maxHeartbeats 8000000 in
theorem sX_tword4 (f : Fr) (hf : Fr.ok f)  (ρ : Env) (g : varsD ρ 0 (v_Fr ([])) = (d_Fr f ([]))) : sT_tword4.asks sP_tword4 (fun ρ e => e.D ρ = sF_tword4 (d_Fr f ([]))) ρ fun _ _ => False := by
  simp only [sF_tword4, rd_Fr_d, rdZ, rdB]
  simp only [d_Fr, v_Fr, varsD, varD, List.cons.injEq, Dt.z.injEq, Dt.l.injEq, b2i_eq_iff, Nat.reduceAdd, and_true] at g
  simp only [sT_tword4, sP_tword4, d_Fr, rd_Fr, rd8, rdZ, sF_tword4, sV_tword4, Tr.asks, upd_same, okDs, okD, eqs, E.I, E.B, E.L, E.R, E.D, E.vs, dI, dB, dL, varD, varsD, List.getElem?_cons_zero, List.getElem?_cons_succ, List.cons_append, List.nil_append, Nat.zero_add, Nat.add_zero, Nat.reduceAdd, and_true, true_and, b2i_one, -eq_self, etasX, g]
  · exact zi (by rw [u8c (hf.2.2.2.2.2.2.2.2.2.2.2.2.2.2.2.2.2.2.2.2.2.2.2.2.2.2.2.2.2.2.2.2.1), u8c (hf.2.2.2.2.2.2.2.2.2.2.2.2.2.2.2.2.2.2.2.2.2.2.2.2.2.2.2.2.2.2.2.2.2.1), u8c (hf.2.2.2.2.2.2.2.2.2.2.2.2.2.2.2.2.2.2.2.2.2.2.2.2.2.2.2.2.2.2.2.2.2.2.1), u8c (hf.2.2.2.2.2.2.2.2.2.2.2.2.2.2.2.2.2.2.2.2.2.2.2.2.2.2.2.2.2.2.2.2.2.2.2.1), u8c (hf.2.2.2.2.2.2.2.2.2.2.2.2.2.2.2.2.2.2.2.2.2.2.2.2.2.2.2.2.2.2.2.2.2.2.2.2.1), u8c (hf.2.2.2.2.2.2.2.2.2.2.2.2.2.2.2.2.2.2.2.2.2.2.2.2.2.2.2.2.2.2.2.2.2.2.2.2.2.1), u8c (hf.2.2.2.2.2.2.2.2.2.2.2.2.2.2.2.2.2.2.2.2.2.2.2.2.2.2.2.2.2.2.2.2.2.2.2.2.2.2.1), u8c (hf.2.2.2.2.2.2.2.2.2.2.2.2.2.2.2.2.2.2.2.2.2.2.2.2.2.2.2.2.2.2.2.2.2.2.2.2.2.2.2.1)]; exact word_up (hf.2.2.2.2.2.2.2.2.2.2.2.2.2.2.2.2.2.2.2.2.2.2.2.2.2.2.2.2.2.2.2.2.1) (hf.2.2.2.2.2.2.2.2.2.2.2.2.2.2.2.2.2.2.2.2.2.2.2.2.2.2.2.2.2.2.2.2.2.1) (hf.2.2.2.2.2.2.2.2.2.2.2.2.2.2.2.2.2.2.2.2.2.2.2.2.2.2.2.2.2.2.2.2.2.2.1) (hf.2.2.2.2.2.2.2.2.2.2.2.2.2.2.2.2.2.2.2.2.2.2.2.2.2.2.2.2.2.2.2.2.2.2.2.1) (hf.2.2.2.2.2.2.2.2.2.2.2.2.2.2.2.2.2.2.2.2.2.2.2.2.2.2.2.2.2.2.2.2.2.2.2.2.1) (hf.2.2.2.2.2.2.2.2.2.2.2.2.2.2.2.2.2.2.2.2.2.2.2.2.2.2.2.2.2.2.2.2.2.2.2.2.2.1) (hf.2.2.2.2.2.2.2.2.2.2.2.2.2.2.2.2.2.2.2.2.2.2.2.2.2.2.2.2.2.2.2.2.2.2.2.2.2.2.1) (hf.2.2.2.2.2.2.2.2.2.2.2.2.2.2.2.2.2.2.2.2.2.2.2.2.2.2.2.2.2.2.2.2.2.2.2.2.2.2.2.1))
theorem sK_tword4 {sp : Spec} {key : Nat} (hF : sp.F key = sF_tword4) (hP : sp.pre key = fun _ => True := by rfl) : SmOk Try.prog sp (sM_tword4 key) :=
  fun_ok (s := sM_tword4 key) hF hP (by kernel_rfl) tysok_SdD (sm0) Try.func16 fn0 sR_tword4 (.inl rfl) (for_Fr fun q0 gq0 => fun  hp ρ g => sX_tword4 q0 gq0 ρ g)
def sM_tword5 (key : Nat) : Sm := ⟨16, key, [.agg kFr, .one (.lit .i64 5)], [.one (.int .u64)], false⟩
def sV_tword5 (f : Fr) : List Dt := [.z (w8 f.f40 f.f41 f.f42 f.f43 f.f44 f.f45 f.f46 f.f47)]
def sF_tword5 : List Dt → List Dt := rd_Fr fun f => fun _ => sV_tword5 f
def sT_tword5 : Tr :=
(.leaf (.cons (.bin .or .u64 (.bin .or .u64 (.bin .or .u64 (.bin .or .u64 (.bin .or .u64 (.bin .or .u64 (.bin .or .u64 (.bin .or .u64 (.lit 0) (.bin .shl .u64 (.conv .u64 (.var 40)) (.lit 0))) (.bin .shl .u64 (.conv .u64 (.var 41)) (.lit 8))) (.bin .shl .u64 (.conv .u64 (.var 42)) (.lit 16))) (.bin .shl .u64 (.conv .u64 (.var 43)) (.lit 24))) (.bin .shl .u64 (.conv .u64 (.var 44)) (.lit 32))) (.bin .shl .u64 (.conv .u64 (.var 45)) (.lit 40))) (.bin .shl .u64 (.conv .u64 (.var 46)) (.lit 48))) (.bin .shl .u64 (.conv .u64 (.var 47)) (.lit 56))) .nil))
def sP_tword5 : Spec := ⟨fun k => match k with | _ => fun _ => [], fun k => match k with | _ => fun _ => True⟩
set_option maxRecDepth 100000 in
theorem sR_tword5 : treeIs tys_SdD [] [] [] [] 200 Try.f16 [.agg kFr, .one (.lit .i64 5)] [.one (.int .u64)] false (v_Fr ([])) sT_tword5 := ⟨by kernel_rfl, by kernel_rfl, by kernel_rfl⟩
set_option maxRecDepth 100000 in
set_option maxHeartbeats 8000000 in
theorem sX_tword5 (f : Fr) (hf : Fr.ok f)  (ρ : Env) (g : varsD ρ 0 (v_Fr ([])) = (d_Fr f ([]))) : sT_tword5.asks sP_tword5 (fun ρ e => e.D ρ = sF_tword5 (d_Fr f ([]))) ρ fun _ _ => False := by
  simp only [sF_tword5, rd_Fr_d, rdZ, rdB]
  simp only [d_Fr, v_Fr, varsD, varD, List.cons.injEq, Dt.z.injEq, Dt.l.injEq, b2i_eq_iff, Nat.reduceAdd, and_true] at g
  simp only [sT_tword5, sP_tword5, d_Fr, rd_Fr, rd8, rdZ, sF_tword5, sV_tword5, Tr.asks, upd_same, okDs, okD, eqs, E.I, E.B, E.L, E.R, E.D, E.vs, dI, dB, dL, varD, varsD, List.getElem?_cons_zero, List.getElem?_cons_succ, List.cons_append, List.nil_append, Nat.zero_add, Nat.add_zero, Nat.reduceAdd, and_true, true_and, b2i_one, -eq_self, etasX, g]
  · exact zi (by rw [u8c (hf.2.2.2.2.2.2.2.2.2.2.2.2.2.2.2.2.2.2.2.2.2.2.2.2.2.2.2.2.2.2.2.2.2.2.2.2.2.2.2.2.1), u8c (hf.2.2.2.2.2.2.2.2.2.2.2.2.2.2.2.2.2.2.2.2.2.2.2.2.2.2.2.2.2.2.2.2.2.2.2.2.2.2.2.2.2.1), u8c (hf.2.2.2.2.2.2.2.2.2.2.2.2.2.2.2.2.2.2.2.2.2.2.2.2.2.2.2.2.2.2.2.2.2.2.2.2.2.2.2.2.2.2.1), u8c (hf.2.2.2.2.2.2.2.2.2.2.2.2.2.2.2.2.2.2.2.2.2.2.2.2.2.2.2.2.2.2.2.2.2.2.2.2.2.2.2.2.2.2.2.1), u8c (hf.2.2.2.2.2.2.2.2.2.2.2.2.2.2.2.2.2.2.2.2.2.2.2.2.2.2.2.2.2.2.2.2.2.2.2.2.2.2.2.2.2.2.2.2.1), u8c (hf.2.2.2.2.2.2.2.2.2.2.2.2.2.2.2.2.2.2.2.2.2.2.2.2.2.2.2.2.2.2.2.2.2.2.2.2.2.2.2.2.2.2.2.2.2.1), u8c (hf.2.2.2.2.2.2.2.2.2.2.2.2.2.2.2.2.2.2.2.2.2.2.2.2.2.2.2.2.2.2.2.2.2.2.2.2.2.2.2.2.2.2.2.2.2.2.1), u8c (hf.2.2.2.2.2.2.2.2.2.2.2.2.2.2.2.2.2.2.2.2.2.2.2.2.2.2.2.2.2.2.2.2.2.2.2.2.2.2.2.2.2.2.2.2.2.2.2.1)]; exact word_up (hf.2.2.2.2.2.2.2.2.2.2.2.2.2.2.2.2.2.2.2.2.2.2.2.2.2.2.2.2.2.2.2.2.2.2.2.2.2.2.2.2.1) (hf.2.2.2.2.2.2.2.2.2.2.2.2.2.2.2.2.2.2.2.2.2.2.2.2.2.2.2.2.2.2.2.2.2.2.2.2.2.2.2.2.2.1) (hf.2.2.2.2.2.2.2.2.2.2.2.2.2.2.2.2.2.2.2.2.2.2.2.2.2.2.2.2.2.2.2.2.2.2.2.2.2.2.2.2.2.2.1) (hf.2.2.2.2.2.2.2.2.2.2.2.2.2.2.2.2.2.2.2.2.2.2.2.2.2.2.2.2.2.2.2.2.2.2.2.2.2.2.2.2.2.2.2.1) (hf.2.2.2.2.2.2.2.2.2.2.2.2.2.2.2.2.2.2.2.2.2.2.2.2.2.2.2.2.2.2.2.2.2.2.2.2.2.2.2.2.2.2.2.2.1) (hf.2.2.2.2.2.2.2.2.2.2.2.2.2.2.2.2.2.2.2.2.2.2.2.2.2.2.2.2.2.2.2.2.2.2.2.2.2.2.2.2.2.2.2.2.2.1) (hf.2.2.2.2.2.2.2.2.2.2.2.2.2.2.2.2.2.2.2.2.2.2.2.2.2.2.2.2.2.2.2.2.2.2.2.2.2.2.2.2.2.2.2.2.2.2.1) (hf.2.2.2.2.2.2.2.2.2.2.2.2.2.2.2.2.2.2.2.2.2.2.2.2.2.2.2.2.2.2.2.2.2.2.2.2.2.2.2.2.2.2.2.2.2.2.2.1))
theorem sK_tword5 {sp : Spec} {key : Nat} (hF : sp.F key = sF_tword5) (hP : sp.pre key = fun _ => True := by rfl) : SmOk Try.prog sp (sM_tword5 key) :=
  fun_ok (s := sM_tword5 key) hF hP (by kernel_rfl) tysok_SdD (sm0) Try.func16 fn0 sR_tword5 (.inl rfl) (for_Fr fun q0 gq0 => fun  hp ρ g => sX_tword5 q0 gq0 ρ g)
def sM_tword6 (key : Nat) : Sm := ⟨16, key, [.agg kFr, .one (.lit .i64 6)], [.one (.int .u64)], false⟩
def sV_tword6 (f : Fr) : List Dt := [.z (w8 f.f48 f.f49 f.f50 f.f51 f.f52 f.f53 f.f54 f.f55)]
def sF_tword6 : List Dt → List Dt := rd_Fr fun f => fun _ => sV_tword6 f
def sT_tword6 : Tr :=
(.leaf (.cons (.bin .or .u64 (.bin .or .u64 (.bin .or .u64 (.bin .or .u64 (.bin .or .u64 (.bin .or .u64 (.bin .or .u64 (.bin .or .u64 (.lit 0) (.bin .shl .u64 (.conv .u64 (.var 48)) (.lit 0))) (.bin .shl .u64 (.conv .u64 (.var 49)) (.lit 8))) (.bin .shl .u64 (.conv .u64 (.var 50)) (.lit 16))) (.bin .shl .u64 (.conv .u64 (.var 51)) (.lit 24))) (.bin .shl .u64 (.conv .u64 (.var 52)) (.lit 32))) (.bin .shl .u64 (.conv .u64 (.var 53)) (.lit 40))) (.bin .shl .u64 (.conv .u64 (.var 54)) (.lit 48))) (.bin .shl .u64 (.conv .u64 (.var 55)) (.lit 56))) .nil))
def sP_tword6 : Spec := ⟨fun k => match k with | _ => fun _ => [], fun k => match k with | _ => fun _ => True⟩
set_option maxRecDepth 100000 in
theorem sR_tword6 : treeIs tys_SdD [] [] [] [] 200 Try.f16 [.agg kFr, .one (.lit .i64 6)] [.one (.int .u64)] false (v_Fr ([])) sT_tword6 := ⟨by kernel_rfl, by kernel_rfl, by kernel_rfl⟩
set_option maxRecDepth 100000 in
set_option maxHeartbeats 8000000 in
theorem sX_tword6 (f : Fr) (hf : Fr.ok f)  (ρ : Env) (g : varsD ρ 0 (v_Fr ([])) = (d_Fr f ([]))) : sT_tword6.asks sP_tword6 (fun ρ e => e.D ρ = sF_tword6 (d_Fr f ([]))) ρ fun _ _ => False := by
  simp only [sF_tword6, rd_Fr_d, rdZ, rdB]
  simp only [d_Fr, v_Fr, varsD, varD, List.cons.injEq, Dt.z.injEq, Dt.l.injEq, b2i_eq_iff, Nat.reduceAdd, and_true] at g
  simp only [sT_tword6, sP_tword6, d_Fr, rd_Fr, rd8, rdZ, sF_tword6, sV_tword6, Tr.asks, upd_same, okDs, okD, eqs, E.I, E.B, E.L, E.R, E.D, E.vs, dI, dB, dL, varD, varsD, List.getElem?_cons_zero, List.getElem?_cons_succ, List.cons_append, List.nil_append, Nat.zero_add, Nat.add_zero, Nat.reduceAdd, and_true, true_and, b2i_one, -eq_self, etasX, g]
  · exact zi (by rw [u8c (hf.2.2.2.2.2.2.2.2.2.2.2.2.2.2.2.2.2.2.2.2.2.2.2.2.2.2.2.2.2.2.2.2.2.2.2.2.2.2.2.2.2.2.2.2.2.2.2.2.1), u8c (hf.2.2.2.2.2.2.2.2.2.2.2.2.2.2.2.2.2.2.2.2.2.2.2.2.2.2.2.2.2.2.2.2.2.2.2.2.2.2.2.2.2.2.2.2.2.2.2.2.2.1), u8c (hf.2.2.2.2.2.2.2.2.2.2.2.2.2.2.2.2.2.2.2.2.2.2.2.2.2.2.2.2.2.2.2.2.2.2.2.2.2.2.2.2.2.2.2.2.2.2.2.2.2.2.1), u8c (hf.2.2.2.2.2.2.2.2.2.2.2.2.2.2.2.2.2.2.2.2.2.2.2.2.2.2.2.2.2.2.2.2.2.2.2.2.2.2.2.2.2.2.2.2.2.2.2.2.2.2.2.1), u8c (hf.2.2.2.2.2.2.2.2.2.2.2.2.2.2.2.2.2.2.2.2.2.2.2.2.2.2.2.2.2.2.2.2.2.2.2.2.2.2.2.2.2.2.2.2.2.2.2.2.2.2.2.2.1), u8c (hf.2.2.2.2.2.2.2.2.2.2.2.2.2.2.2.2.2.2.2.2.2.2.2.2.2.2.2.2.2.2.2.2.2.2.2.2.2.2.2.2.2.2.2.2.2.2.2.2.2.2.2.2.2.1), u8c (hf.2.2.2.2.2.2.2.2.2.2.2.2.2.2.2.2.2.2.2.2.2.2.2.2.2.2.2.2.2.2.2.2.2.2.2.2.2.2.2.2.2.2.2.2.2.2.2.2.2.2.2.2.2.2.1), u8c (hf.2.2.2.2.2.2.2.2.2.2.2.2.2.2.2.2.2.2.2.2.2.2.2.2.2.2.2.2.2.2.2.2.2.2.2.2.2.2.2.2.2.2.2.2.2.2.2.2.2.2.2.2.2.2.2.1)]; exact word_up (hf.2.2.2.2.2.2.2.2.2.2.2.2.2.2.2.2.2.2.2.2.2.2.2.2.2.2.2.2.2.2.2.2.2.2.2.2.2.2.2.2.2.2.2.2.2.2.2.2.1) (hf.2.2.2.2.2.2.2.2.2.2.2.2.2.2.2.2.2.2.2.2.2.2.2.2.2.2.2.2.2.2.2.2.2.2.2.2.2.2.2.2.2.2.2.2.2.2.2.2.2.1) (hf.2.2.2.2.2.2.2.2.2.2.2.2.2.2.2.2.2.2.2.2.2.2.2.2.2.2.2.2.2.2.2.2.2.2.2.2.2.2.2.2.2.2.2.2.2.2.2.2.2.2.1) (hf.2.2.2.2.2.2.2.2.2.2.2.2.2.2.2.2.2.2.2.2.2.2.2.2.2.2.2.2.2.2.2.2.2.2.2.2.2.2.2.2.2.2.2.2.2.2.2.2.2.2.2.1) (hf.2.2.2.2.2.2.2.2.2.2.2.2.2.2.2.2.2.2.2.2.2.2.2.2.2.2.2.2.2.2.2.2.2.2.2.2.2.2.2.2.2.2.2.2.2.2.2.2.2.2.2.2.1) (hf.2.2.2.2.2.2.2.2.2.2.2.2.2.2.2.2.2.2.2.2.2.2.2.2.2.2.2.2.2.2.2.2.2.2.2.2.2.2.2.2.2.2.2.2.2.2.2.2.2.2.2.2.2.1) (hf.2.2.2.2.2.2.2.2.2.2.2.2.2.2.2.2.2.2.2.2.2.2.2.2.2.2.2.2.2.2.2.2.2.2.2.2.2.2.2.2.2.2.2.2.2.2.2.2.2.2.2.2.2.2.1) (hf.2.2.2.2.2.2.2.2.2.2.2.2.2.2.2.2.2.2.2.2.2.2.2.2.2.2.2.2.2.2.2.2.2.2.2.2.2.2.2.2.2.2.2.2.2.2.2.2.2.2.2.2.2.2.2.1))
theorem sK_tword6 {sp : Spec} {key : Nat} (hF : sp.F key = sF_tword6) (hP : sp.pre key = fun _ => True := by rfl) : SmOk Try.prog sp (sM_tword6 key) :=
  fun_ok (s := sM_tword6 key) hF hP (by kernel_rfl) tysok_SdD (sm0) Try.func16 fn0 sR_tword6 (.inl rfl) (for_Fr fun q0 gq0 => fun  hp ρ g => sX_tword6 q0 gq0 ρ g)
def sM_tword7 (key : Nat) : Sm := ⟨16, key, [.agg kFr, .one (.lit .i64 7)], [.one (.int .u64)], false⟩
def sV_tword7 (f : Fr) : List Dt := [.z (w8 f.f56 f.f57 f.f58 f.f59 f.f60 f.f61 f.f62 f.f63)]
def sF_tword7 : List Dt → List Dt := rd_Fr fun f => fun _ => sV_tword7 f
def sT_tword7 : Tr :=
(.leaf (.cons (.bin .or .u64 (.bin .or .u64 (.bin .or .u64 (.bin .or .u64 (.bin .or .u64 (.bin .or .u64 (.bin .or .u64 (.bin .or .u64 (.lit 0) (.bin .shl .u64 (.conv .u64 (.var 56)) (.lit 0))) (.bin .shl .u64 (.conv .u64 (.var 57)) (.lit 8))) (.bin .shl .u64 (.conv .u64 (.var 58)) (.lit 16))) (.bin .shl .u64 (.conv .u64 (.var 59)) (.lit 24))) (.bin .shl .u64 (.conv .u64 (.var 60)) (.lit 32))) (.bin .shl .u64 (.conv .u64 (.var 61)) (.lit 40))) (.bin .shl .u64 (.conv .u64 (.var 62)) (.lit 48))) (.bin .shl .u64 (.conv .u64 (.var 63)) (.lit 56))) .nil))
def sP_tword7 : Spec := ⟨fun k => match k with | _ => fun _ => [], fun k => match k with | _ => fun _ => True⟩
set_option maxRecDepth 100000 in
theorem sR_tword7 : treeIs tys_SdD [] [] [] [] 200 Try.f16 [.agg kFr, .one (.lit .i64 7)] [.one (.int .u64)] false (v_Fr ([])) sT_tword7 := ⟨by kernel_rfl, by kernel_rfl, by kernel_rfl⟩
set_option maxRecDepth 100000 in
set_option maxHeartbeats 8000000 in
theorem sX_tword7 (f : Fr) (hf : Fr.ok f)  (ρ : Env) (g : varsD ρ 0 (v_Fr ([])) = (d_Fr f ([]))) : sT_tword7.asks sP_tword7 (fun ρ e => e.D ρ = sF_tword7 (d_Fr f ([]))) ρ fun _ _ => False := by
  simp only [sF_tword7, rd_Fr_d, rdZ, rdB]
  simp only [d_Fr, v_Fr, varsD, varD, List.cons.injEq, Dt.z.injEq, Dt.l.injEq, b2i_eq_iff, Nat.reduceAdd, and_true] at g
  simp only [sT_tword7, sP_tword7, d_Fr, rd_Fr, rd8, rdZ, sF_tword7, sV_tword7, Tr.asks, upd_same, okDs, okD, eqs, E.I, E.B, E.L, E.R, E.D, E.vs, dI, dB, dL, varD, varsD, List.getElem?_cons_zero, List.getElem?_cons_succ, List.cons_append, List.nil_append, Nat.zero_add, Nat.add_zero, Nat.reduceAdd, and_true, true_and, b2i_one, -eq_self, etasX, g]
  · exact zi (by rw [u8c (hf.2.2.2.2.2.2.2.2.2.2.2.2.2.2.2.2.2.2.2.2.2.2.2.2.2.2.2.2.2.2.2.2.2.2.2.2.2.2.2.2.2.2.2.2.2.2.2.2.2.2.2.2.2.2.2.2.1), u8c (hf.2.2.2.2.2.2.2.2.2.2.2.2.2.2.2.2.2.2.2.2.2.2.2.2.2.2.2.2.2.2.2.2.2.2.2.2.2.2.2.2.2.2.2.2.2.2.2.2.2.2.2.2.2.2.2.2.2.1), u8c (hf.2.2.2.2.2.2.2.2.2.2.2.2.2.2.2.2.2.2.2.2.2.2.2.2.2.2.2.2.2.2.2.2.2.2.2.2.2.2.2.2.2.2.2.2.2.2.2.2.2.2.2.2.2.2.2.2.2.2.1), u8c (hf.2.2.2.2.2.2.2.2.2.2.2.2.2.2.2.2.2.2.2.2.2.2.2.2.2.2.2.2.2.2.2.2.2.2.2.2.2.2.2.2.2.2.2.2.2.2.2.2.2.2.2.2.2.2.2.2.2.2.2.1), u8c (hf.2.2.2.2.2.2.2.2.2.2.2.2.2.2.2.2.2.2.2.2.2.2.2.2.2.2.2.2.2.2.2.2.2.2.2.2.2.2.2.2.2.2.2.2.2.2.2.2.2.2.2.2.2.2.2.2.2.2.2.2.1), u8c (hf.2.2.2.2.2.2.2.2.2.2.2.2.2.2.2.2.2.2.2.2.2.2.2.2.2.2.2.2.2.2.2.2.2.2.2.2.2.2.2.2.2.2.2.2.2.2.2.2.2.2.2.2.2.2.2.2.2.2.2.2.2.1), u8c (hf.2.2.2.2.2.2.2.2.2.2.2.2.2.2.2.2.2.2.2.2.2.2.2.2.2.2.2.2.2.2.2.2.2.2.2.2.2.2.2.2.2.2.2.2.2.2.2.2.2.2.2.2.2.2.2.2.2.2.2.2.2.2.1), u8c (hf.2.2.2.2.2.2.2.2.2.2.2.2.2.2.2.2.2.2.2.2.2.2.2.2.2.2.2.2.2.2.2.2.2.2.2.2.2.2.2.2.2.2.2.2.2.2.2.2.2.2.2.2.2.2.2.2.2.2.2.2.2.2.2)]; exact word_up (hf.2.2.2.2.2.2.2.2.2.2.2.2.2.2.2.2.2.2.2.2.2.2.2.2.2.2.2.2.2.2.2.2.2.2.2.2.2.2.2.2.2.2.2.2.2.2.2.2.2.2.2.2.2.2.2.2.1) (hf.2.2.2.2.2.2.2.2.2.2.2.2.2.2.2.2.2.2.2.2.2.2.2.2.2.2.2.2.2.2.2.2.2.2.2.2.2.2.2.2.2.2.2.2.2.2.2.2.2.2.2.2.2.2.2.2.2.1) (hf.2.2.2.2.2.2.2.2.2.2.2.2.2.2.2.2.2.2.2.2.2.2.2.2.2.2.2.2.2.2.2.2.2.2.2.2.2.2.2.2.2.2.2.2.2.2.2.2.2.2.2.2.2.2.2.2.2.2.1) (hf.2.2.2.2.2.2.2.2.2.2.2.2.2.2.2.2.2.2.2.2.2.2.2.2.2.2.2.2.2.2.2.2.2.2.2.2.2.2.2.2.2.2.2.2.2.2.2.2.2.2.2.2.2.2.2.2.2.2.2.1) (hf.2.2.2.2.2.2.2.2.2.2.2.2.2.2.2.2.2.2.2.2.2.2.2.2.2.2.2.2.2.2.2.2.2.2.2.2.2.2.2.2.2.2.2.2.2.2.2.2.2.2.2.2.2.2.2.2.2.2.2.2.1) (hf.2.2.2.2.2.2.2.2.2.2.2.2.2.2.2.2.2.2.2.2.2.2.2.2.2.2.2.2.2.2.2.2.2.2.2.2.2.2.2.2.2.2.2.2.2.2.2.2.2.2.2.2.2.2.2.2.2.2.2.2.2.1) (hf.2.2.2.2.2.2.2.2.2.2.2.2.2.2.2.2.2.2.2.2.2.2.2.2.2.2.2.2.2.2.2.2.2.2.2.2.2.2.2.2.2.2.2.2.2.2.2.2.2.2.2.2.2.2.2.2.2.2.2.2.2.2.1) (hf.2.2.2.2.2.2.2.2.2.2.2.2.2.2.2.2.2.2.2.2.2.2.2.2.2.2.2.2.2.2.2.2.2.2.2.2.2.2.2.2.2.2.2.2.2.2.2.2.2.2.2.2.2.2.2.2.2.2.2.2.2.2.2))
theorem sK_tword7 {sp : Spec} {key : Nat} (hF : sp.F key = sF_tword7) (hP : sp.pre key = fun _ => True := by rfl) : SmOk Try.prog sp (sM_tword7 key) :=
  fun_ok (s := sM_tword7 key) hF hP (by kernel_rfl) tysok_SdD (sm0) Try.func16 fn0 sR_tword7 (.inl rfl) (for_Fr fun q0 gq0 => fun  hp ρ g => sX_tword7 q0 gq0 ρ g)
def sM_thas (key : Nat) : Sm := ⟨6, key, [.agg kSta, .agg kSnap], [.one .bool], false⟩
def sV_thas (s : Sta) (x : Snap) : List Dt := [.z (b2i (shas s x))]
def sF_thas : List Dt → List Dt := rd_Sta fun s => rd_Snap fun x => fun _ => sV_thas s x
set_option maxRecDepth 100000 in
def sT_thas : Tr :=
(.call 0 ([.bool]) (.vs 0 171 .nil) 247
(.br (.bvar 247)
(.cut 0 248 []
(.br (.eq (.var 0) (.lit 0))
(.call 1 ([.bool]) (.vs 0 9 (.cons (.var 171) .nil)) 248
(.br (.bvar 248)
(.next 0 .nil)
(.leaf (.consb (.tt false) .nil))))
(.br (.eq (.bin .and .i64 (.bin .shr .i64 (.var 182) (.lit 0)) (.lit 1)) (.lit 1))
(.call 1 ([.bool]) (.vs 0 9 (.cons (.var 171) .nil)) 248
(.br (.bvar 248)
(.next 0 .nil)
(.leaf (.consb (.tt false) .nil))))
(.leaf (.consb (.tt false) .nil))))
(.cut 1 248 []
(.br (.eq (.var 9) (.lit 0))
(.call 1 ([.bool]) (.vs 9 9 (.cons (.var 172) .nil)) 248
(.br (.bvar 248)
(.next 1 .nil)
(.leaf (.consb (.tt false) .nil))))
(.br (.eq (.bin .and .i64 (.bin .shr .i64 (.var 182) (.lit 1)) (.lit 1)) (.lit 1))
(.call 1 ([.bool]) (.vs 9 9 (.cons (.var 172) .nil)) 248
(.br (.bvar 248)
(.next 1 .nil)
(.leaf (.consb (.tt false) .nil))))
(.leaf (.consb (.tt false) .nil))))
(.cut 2 248 []
(.br (.eq (.var 18) (.lit 0))
(.call 1 ([.bool]) (.vs 18 9 (.cons (.var 173) .nil)) 248
(.br (.bvar 248)
(.next 2 .nil)
(.leaf (.consb (.tt false) .nil))))
(.br (.eq (.bin .and .i64 (.bin .shr .i64 (.var 182) (.lit 2)) (.lit 1)) (.lit 1))
(.call 1 ([.bool]) (.vs 18 9 (.cons (.var 173) .nil)) 248
(.br (.bvar 248)
(.next 2 .nil)
(.leaf (.consb (.tt false) .nil))))
(.leaf (.consb (.tt false) .nil))))
(.cut 3 248 []
(.br (.eq (.var 27) (.lit 0))
(.call 1 ([.bool]) (.vs 27 9 (.cons (.var 174) .nil)) 248
(.br (.bvar 248)
(.next 3 .nil)
(.leaf (.consb (.tt false) .nil))))
(.br (.eq (.bin .and .i64 (.bin .shr .i64 (.var 182) (.lit 3)) (.lit 1)) (.lit 1))
(.call 1 ([.bool]) (.vs 27 9 (.cons (.var 174) .nil)) 248
(.br (.bvar 248)
(.next 3 .nil)
(.leaf (.consb (.tt false) .nil))))
(.leaf (.consb (.tt false) .nil))))
(.cut 4 248 []
(.br (.eq (.var 36) (.lit 0))
(.call 1 ([.bool]) (.vs 36 9 (.cons (.var 175) .nil)) 248
(.br (.bvar 248)
(.next 4 .nil)
(.leaf (.consb (.tt false) .nil))))
(.br (.eq (.bin .and .i64 (.bin .shr .i64 (.var 182) (.lit 4)) (.lit 1)) (.lit 1))
(.call 1 ([.bool]) (.vs 36 9 (.cons (.var 175) .nil)) 248
(.br (.bvar 248)
(.next 4 .nil)
(.leaf (.consb (.tt false) .nil))))
(.leaf (.consb (.tt false) .nil))))
(.cut 5 248 []
(.br (.eq (.var 45) (.lit 0))
(.call 1 ([.bool]) (.vs 45 9 (.cons (.var 176) .nil)) 248
(.br (.bvar 248)
(.next 5 .nil)
(.leaf (.consb (.tt false) .nil))))
(.br (.eq (.bin .and .i64 (.bin .shr .i64 (.var 182) (.lit 5)) (.lit 1)) (.lit 1))
(.call 1 ([.bool]) (.vs 45 9 (.cons (.var 176) .nil)) 248
(.br (.bvar 248)
(.next 5 .nil)
(.leaf (.consb (.tt false) .nil))))
(.leaf (.consb (.tt false) .nil))))
(.cut 6 248 []
(.br (.eq (.var 54) (.lit 0))
(.call 1 ([.bool]) (.vs 54 9 (.cons (.var 177) .nil)) 248
(.br (.bvar 248)
(.next 6 .nil)
(.leaf (.consb (.tt false) .nil))))
(.br (.eq (.bin .and .i64 (.bin .shr .i64 (.var 182) (.lit 6)) (.lit 1)) (.lit 1))
(.call 1 ([.bool]) (.vs 54 9 (.cons (.var 177) .nil)) 248
(.br (.bvar 248)
(.next 6 .nil)
(.leaf (.consb (.tt false) .nil))))
(.leaf (.consb (.tt false) .nil))))
(.cut 7 248 []
(.br (.eq (.var 63) (.lit 0))
(.call 1 ([.bool]) (.vs 63 9 (.cons (.var 178) .nil)) 248
(.br (.bvar 248)
(.next 7 .nil)
(.leaf (.consb (.tt false) .nil))))
(.br (.eq (.bin .and .i64 (.bin .shr .i64 (.var 182) (.lit 7)) (.lit 1)) (.lit 1))
(.call 1 ([.bool]) (.vs 63 9 (.cons (.var 178) .nil)) 248
(.br (.bvar 248)
(.next 7 .nil)
(.leaf (.consb (.tt false) .nil))))
(.leaf (.consb (.tt false) .nil))))
(.cut 8 248 []
(.br (.eq (.var 72) (.lit 0))
(.call 1 ([.bool]) (.vs 72 9 (.cons (.var 179) .nil)) 248
(.br (.bvar 248)
(.next 8 .nil)
(.leaf (.consb (.tt false) .nil))))
(.br (.eq (.bin .and .i64 (.bin .shr .i64 (.var 182) (.lit 8)) (.lit 1)) (.lit 1))
(.call 1 ([.bool]) (.vs 72 9 (.cons (.var 179) .nil)) 248
(.br (.bvar 248)
(.next 8 .nil)
(.leaf (.consb (.tt false) .nil))))
(.leaf (.consb (.tt false) .nil))))
(.cut 9 248 []
(.br (.eq (.var 81) (.lit 0))
(.call 1 ([.bool]) (.vs 81 9 (.cons (.var 180) .nil)) 248
(.br (.bvar 248)
(.next 9 .nil)
(.leaf (.consb (.tt false) .nil))))
(.br (.eq (.bin .and .i64 (.bin .shr .i64 (.var 182) (.lit 9)) (.lit 1)) (.lit 1))
(.call 1 ([.bool]) (.vs 81 9 (.cons (.var 180) .nil)) 248
(.br (.bvar 248)
(.next 9 .nil)
(.leaf (.consb (.tt false) .nil))))
(.leaf (.consb (.tt false) .nil))))
(.cut 10 248 []
(.br (.eq (.var 90) (.lit 0))
(.call 1 ([.bool]) (.vs 90 9 (.cons (.var 181) .nil)) 248
(.br (.bvar 248)
(.next 10 .nil)
(.leaf (.consb (.tt false) .nil))))
(.br (.eq (.bin .and .i64 (.bin .shr .i64 (.var 182) (.lit 10)) (.lit 1)) (.lit 1))
(.call 1 ([.bool]) (.vs 90 9 (.cons (.var 181) .nil)) 248
(.br (.bvar 248)
(.next 10 .nil)
(.leaf (.consb (.tt false) .nil))))
(.leaf (.consb (.tt false) .nil))))
(.call 2 ([.int .u64]) (.vs 183 64 .nil) 248
(.call 1 ([.bool]) (.vs 99 9 (.cons (.var 248) .nil)) 249
(.br (.bvar 249)
(.call 3 ([.int .u64]) (.vs 183 64 .nil) 250
(.call 1 ([.bool]) (.vs 108 9 (.cons (.var 250) .nil)) 251
(.br (.bvar 251)
(.call 4 ([.int .u64]) (.vs 183 64 .nil) 252
(.call 1 ([.bool]) (.vs 117 9 (.cons (.var 252) .nil)) 253
(.br (.bvar 253)
(.call 5 ([.int .u64]) (.vs 183 64 .nil) 254
(.call 1 ([.bool]) (.vs 126 9 (.cons (.var 254) .nil)) 255
(.br (.bvar 255)
(.call 6 ([.int .u64]) (.vs 183 64 .nil) 256
(.call 1 ([.bool]) (.vs 135 9 (.cons (.var 256) .nil)) 257
(.br (.bvar 257)
(.call 7 ([.int .u64]) (.vs 183 64 .nil) 258
(.call 1 ([.bool]) (.vs 144 9 (.cons (.var 258) .nil)) 259
(.br (.bvar 259)
(.call 8 ([.int .u64]) (.vs 183 64 .nil) 260
(.call 1 ([.bool]) (.vs 153 9 (.cons (.var 260) .nil)) 261
(.br (.bvar 261)
(.call 9 ([.int .u64]) (.vs 183 64 .nil) 262
(.call 1 ([.bool]) (.vs 162 9 (.cons (.var 262) .nil)) 263
(.br (.bvar 263)
(.leaf (.consb (.tt true) .nil))
(.leaf (.consb (.tt false) .nil)))))
(.leaf (.consb (.tt false) .nil)))))
(.leaf (.consb (.tt false) .nil)))))
(.leaf (.consb (.tt false) .nil)))))
(.leaf (.consb (.tt false) .nil)))))
(.leaf (.consb (.tt false) .nil)))))
(.leaf (.consb (.tt false) .nil)))))
(.leaf (.consb (.tt false) .nil))))))))))))))))
(.leaf (.consb (.tt false) .nil))))
def sP_thas : Spec := ⟨fun k => match k with | 0 => sF_tmay | 1 => sF_thold | 2 => sF_tword0 | 3 => sF_tword1 | 4 => sF_tword2 | 5 => sF_tword3 | 6 => sF_tword4 | 7 => sF_tword5 | 8 => sF_tword6 | 9 => sF_tword7 | _ => fun _ => [], fun k => match k with | _ => fun _ => True⟩
set_option maxRecDepth 100000 in
theorem sR_thas : treeIs tys_SdD [sM_tmay 0, sM_thold 1, sM_tword0 2, sM_tword1 3, sM_tword2 4, sM_tword3 5, sM_tword4 6, sM_tword5 7, sM_tword6 8, sM_tword7 9] [] [] [(10, [.top 14, .top 5, .top 15, .top 16, .top 17, .top 18, .top 19, .top 20, .top 6, .top 21, .top 22, .top 23, .top 24, .top 7, .top 25, .top 26, .top 27, .top 28, .top 29, .top 30, .top 31, .top 32, .top 33, .top 34, .top 35, .top 36, .top 37, .top 38, .top 39, .top 40, .top 4])] 400 Try.f6 [.agg kSta, .agg kSnap] [.one .bool] false (v_Sta ( v_Snap ([]))) sT_thas := ⟨by kernel_rfl, by kernel_rfl, by kernel_rfl⟩
set_option maxRecDepth 100000 in
set_option maxHeartbeats 8000000 in
theorem sX_thas (s : Sta) (hs : Sta.ok s) (x : Snap) (hx : Snap.ok x) (ρ : Env) (g : varsD ρ 0 (v_Sta ( v_Snap ([]))) = (d_Sta s ( d_Snap x ([])))) : sT_thas.asks sP_thas (fun ρ e => e.D ρ = sF_thas (d_Sta s ( d_Snap x ([])))) ρ fun _ _ => False := by
  have keepg := g
  simp only [sF_thas, rd_Sta_d, rd_Ty_d, rd_Snap_d, rdZ, rdB]
  simp only [d_Sta, d_Ty, d_Snap, d_Fr, v_Sta, v_Ty, v_Snap, v_Fr, varsD, varD, List.cons.injEq, Dt.z.injEq, Dt.l.injEq, b2i_eq_iff, Nat.reduceAdd, and_true] at g
  simp (maxSteps := 10000000) only [sT_thas, sP_thas, d_Sta, d_Ty, d_Snap, d_Fr, rd_Sta, rd_Ty, rd_Snap, rd8, rdZ, rd_Fr, sF_tmay, sF_thold, sF_tword0, sF_tword1, sF_tword2, sF_tword3, sF_tword4, sF_tword5, sF_tword6, sF_tword7, sV_tmay, sV_thold, sV_tword0, sV_tword1, sV_tword2, sV_tword3, sV_tword4, sV_tword5, sV_tword6, sV_tword7, sF_thas, sV_thas, Tr.asks, upd_same, okDs, okD, eqs, E.I, E.B, E.L, E.R, E.D, E.vs, dI, dB, dL, varD, varsD, List.getElem?_cons_zero, List.getElem?_cons_succ, List.cons_append, List.nil_append, Nat.zero_add, Nat.add_zero, Nat.reduceAdd, and_true, true_and, b2i_one, -eq_self, etasX, g]
  intro e; (try simp only [e, etasX, -eq_self]); clear e
  refine ⟨fun c0 => ?_, fun c0 => ?_⟩
  refine ⟨fun _ => rok x.set 0 s.r0 x.r0 = true, ?_, ?_⟩
  refine ⟨fun c1 => ?_, fun c1 => ?_⟩
  intro e; (try simp only [e, etasX, -eq_self]); clear e
  refine ⟨fun c2 => ?_, fun c2 => ?_⟩
  · exact rok_k c1 c2
  · simp only [shas, rok_h (set := x.set) (i := 0) c2, Bool.false_and, Bool.and_false]
  refine ⟨fun c3 => ?_, fun c3 => ?_⟩
  intro e; (try simp only [e, etasX, -eq_self]); clear e
  refine ⟨fun c4 => ?_, fun c4 => ?_⟩
  · exact rok_s c3 c4
  · simp only [shas, rok_h (set := x.set) (i := 0) c4, Bool.false_and, Bool.and_false]
  · simp only [shas, rok_n (i := 0) (v := x.r0) c1 c3, Bool.false_and, Bool.and_false]
  intro ρ0 ha0 _ hi0
  have keepg0 := (varsD_ag ha0 _ 0 (by decide)).trans keepg
  have g0 := keepg0
  simp only [d_Ty, v_Ty, d_Sta, v_Sta, d_Snap, v_Snap, d_Fr, v_Fr, varsD, varD, List.cons.injEq, Dt.z.injEq, Dt.l.injEq, b2i_eq_iff, Nat.reduceAdd, and_true] at g0
  simp only [g0, -eq_self]
  refine ⟨fun _ => rok x.set 1 s.r1 x.r1 = true, ?_, ?_⟩
  refine ⟨fun c5 => ?_, fun c5 => ?_⟩
  intro e; (try simp only [e, etasX, -eq_self]); clear e
  refine ⟨fun c6 => ?_, fun c6 => ?_⟩
  · exact rok_k c5 c6
  · simp only [shas, rok_h (set := x.set) (i := 1) c6, Bool.false_and, Bool.and_false]
  refine ⟨fun c7 => ?_, fun c7 => ?_⟩
  intro e; (try simp only [e, etasX, -eq_self]); clear e
  refine ⟨fun c8 => ?_, fun c8 => ?_⟩
  · exact rok_s c7 c8
  · simp only [shas, rok_h (set := x.set) (i := 1) c8, Bool.false_and, Bool.and_false]
  · simp only [shas, rok_n (i := 1) (v := x.r1) c5 c7, Bool.false_and, Bool.and_false]
  intro ρ1 ha1 _ hi1
  have keepg1 := (varsD_ag ha1 _ 0 (by decide)).trans keepg0
  have g1 := keepg1
  simp only [d_Ty, v_Ty, d_Sta, v_Sta, d_Snap, v_Snap, d_Fr, v_Fr, varsD, varD, List.cons.injEq, Dt.z.injEq, Dt.l.injEq, b2i_eq_iff, Nat.reduceAdd, and_true] at g1
  simp only [g1, -eq_self]
  refine ⟨fun _ => rok x.set 2 s.r2 x.r2 = true, ?_, ?_⟩
  refine ⟨fun c9 => ?_, fun c9 => ?_⟩
  intro e; (try simp only [e, etasX, -eq_self]); clear e
  refine ⟨fun c10 => ?_, fun c10 => ?_⟩
  · exact rok_k c9 c10
  · simp only [shas, rok_h (set := x.set) (i := 2) c10, Bool.false_and, Bool.and_false]
  refine ⟨fun c11 => ?_, fun c11 => ?_⟩
  intro e; (try simp only [e, etasX, -eq_self]); clear e
  refine ⟨fun c12 => ?_, fun c12 => ?_⟩
  · exact rok_s c11 c12
  · simp only [shas, rok_h (set := x.set) (i := 2) c12, Bool.false_and, Bool.and_false]
  · simp only [shas, rok_n (i := 2) (v := x.r2) c9 c11, Bool.false_and, Bool.and_false]
  intro ρ2 ha2 _ hi2
  have keepg2 := (varsD_ag ha2 _ 0 (by decide)).trans keepg1
  have g2 := keepg2
  simp only [d_Ty, v_Ty, d_Sta, v_Sta, d_Snap, v_Snap, d_Fr, v_Fr, varsD, varD, List.cons.injEq, Dt.z.injEq, Dt.l.injEq, b2i_eq_iff, Nat.reduceAdd, and_true] at g2
  simp only [g2, -eq_self]
  refine ⟨fun _ => rok x.set 3 s.r3 x.r3 = true, ?_, ?_⟩
  refine ⟨fun c13 => ?_, fun c13 => ?_⟩
  intro e; (try simp only [e, etasX, -eq_self]); clear e
  refine ⟨fun c14 => ?_, fun c14 => ?_⟩
  · exact rok_k c13 c14
  · simp only [shas, rok_h (set := x.set) (i := 3) c14, Bool.false_and, Bool.and_false]
  refine ⟨fun c15 => ?_, fun c15 => ?_⟩
  intro e; (try simp only [e, etasX, -eq_self]); clear e
  refine ⟨fun c16 => ?_, fun c16 => ?_⟩
  · exact rok_s c15 c16
  · simp only [shas, rok_h (set := x.set) (i := 3) c16, Bool.false_and, Bool.and_false]
  · simp only [shas, rok_n (i := 3) (v := x.r3) c13 c15, Bool.false_and, Bool.and_false]
  intro ρ3 ha3 _ hi3
  have keepg3 := (varsD_ag ha3 _ 0 (by decide)).trans keepg2
  have g3 := keepg3
  simp only [d_Ty, v_Ty, d_Sta, v_Sta, d_Snap, v_Snap, d_Fr, v_Fr, varsD, varD, List.cons.injEq, Dt.z.injEq, Dt.l.injEq, b2i_eq_iff, Nat.reduceAdd, and_true] at g3
  simp only [g3, -eq_self]
  refine ⟨fun _ => rok x.set 4 s.r4 x.r4 = true, ?_, ?_⟩
  refine ⟨fun c17 => ?_, fun c17 => ?_⟩
  intro e; (try simp only [e, etasX, -eq_self]); clear e
  refine ⟨fun c18 => ?_, fun c18 => ?_⟩
  · exact rok_k c17 c18
  · simp only [shas, rok_h (set := x.set) (i := 4) c18, Bool.false_and, Bool.and_false]
  refine ⟨fun c19 => ?_, fun c19 => ?_⟩
  intro e; (try simp only [e, etasX, -eq_self]); clear e
  refine ⟨fun c20 => ?_, fun c20 => ?_⟩
  · exact rok_s c19 c20
  · simp only [shas, rok_h (set := x.set) (i := 4) c20, Bool.false_and, Bool.and_false]
  · simp only [shas, rok_n (i := 4) (v := x.r4) c17 c19, Bool.false_and, Bool.and_false]
  intro ρ4 ha4 _ hi4
  have keepg4 := (varsD_ag ha4 _ 0 (by decide)).trans keepg3
  have g4 := keepg4
  simp only [d_Ty, v_Ty, d_Sta, v_Sta, d_Snap, v_Snap, d_Fr, v_Fr, varsD, varD, List.cons.injEq, Dt.z.injEq, Dt.l.injEq, b2i_eq_iff, Nat.reduceAdd, and_true] at g4
  simp only [g4, -eq_self]
  refine ⟨fun _ => rok x.set 5 s.r5 x.r5 = true, ?_, ?_⟩
  refine ⟨fun c21 => ?_, fun c21 => ?_⟩
  intro e; (try simp only [e, etasX, -eq_self]); clear e
  refine ⟨fun c22 => ?_, fun c22 => ?_⟩
  · exact rok_k c21 c22
  · simp only [shas, rok_h (set := x.set) (i := 5) c22, Bool.false_and, Bool.and_false]
  refine ⟨fun c23 => ?_, fun c23 => ?_⟩
  intro e; (try simp only [e, etasX, -eq_self]); clear e
  refine ⟨fun c24 => ?_, fun c24 => ?_⟩
  · exact rok_s c23 c24
  · simp only [shas, rok_h (set := x.set) (i := 5) c24, Bool.false_and, Bool.and_false]
  · simp only [shas, rok_n (i := 5) (v := x.r5) c21 c23, Bool.false_and, Bool.and_false]
  intro ρ5 ha5 _ hi5
  have keepg5 := (varsD_ag ha5 _ 0 (by decide)).trans keepg4
  have g5 := keepg5
  simp only [d_Ty, v_Ty, d_Sta, v_Sta, d_Snap, v_Snap, d_Fr, v_Fr, varsD, varD, List.cons.injEq, Dt.z.injEq, Dt.l.injEq, b2i_eq_iff, Nat.reduceAdd, and_true] at g5
  simp only [g5, -eq_self]
  refine ⟨fun _ => rok x.set 6 s.r6 x.r6 = true, ?_, ?_⟩
  refine ⟨fun c25 => ?_, fun c25 => ?_⟩
  intro e; (try simp only [e, etasX, -eq_self]); clear e
  refine ⟨fun c26 => ?_, fun c26 => ?_⟩
  · exact rok_k c25 c26
  · simp only [shas, rok_h (set := x.set) (i := 6) c26, Bool.false_and, Bool.and_false]
  refine ⟨fun c27 => ?_, fun c27 => ?_⟩
  intro e; (try simp only [e, etasX, -eq_self]); clear e
  refine ⟨fun c28 => ?_, fun c28 => ?_⟩
  · exact rok_s c27 c28
  · simp only [shas, rok_h (set := x.set) (i := 6) c28, Bool.false_and, Bool.and_false]
  · simp only [shas, rok_n (i := 6) (v := x.r6) c25 c27, Bool.false_and, Bool.and_false]
  intro ρ6 ha6 _ hi6
  have keepg6 := (varsD_ag ha6 _ 0 (by decide)).trans keepg5
  have g6 := keepg6
  simp only [d_Ty, v_Ty, d_Sta, v_Sta, d_Snap, v_Snap, d_Fr, v_Fr, varsD, varD, List.cons.injEq, Dt.z.injEq, Dt.l.injEq, b2i_eq_iff, Nat.reduceAdd, and_true] at g6
  simp only [g6, -eq_self]
  refine ⟨fun _ => rok x.set 7 s.r7 x.r7 = true, ?_, ?_⟩
  refine ⟨fun c29 => ?_, fun c29 => ?_⟩
  intro e; (try simp only [e, etasX, -eq_self]); clear e
  refine ⟨fun c30 => ?_, fun c30 => ?_⟩
  · exact rok_k c29 c30
  · simp only [shas, rok_h (set := x.set) (i := 7) c30, Bool.false_and, Bool.and_false]
  refine ⟨fun c31 => ?_, fun c31 => ?_⟩
  intro e; (try simp only [e, etasX, -eq_self]); clear e
  refine ⟨fun c32 => ?_, fun c32 => ?_⟩
  · exact rok_s c31 c32
  · simp only [shas, rok_h (set := x.set) (i := 7) c32, Bool.false_and, Bool.and_false]
  · simp only [shas, rok_n (i := 7) (v := x.r7) c29 c31, Bool.false_and, Bool.and_false]
  intro ρ7 ha7 _ hi7
  have keepg7 := (varsD_ag ha7 _ 0 (by decide)).trans keepg6
  have g7 := keepg7
  simp only [d_Ty, v_Ty, d_Sta, v_Sta, d_Snap, v_Snap, d_Fr, v_Fr, varsD, varD, List.cons.injEq, Dt.z.injEq, Dt.l.injEq, b2i_eq_iff, Nat.reduceAdd, and_true] at g7
  simp only [g7, -eq_self]
  refine ⟨fun _ => rok x.set 8 s.r8 x.r8 = true, ?_, ?_⟩
  refine ⟨fun c33 => ?_, fun c33 => ?_⟩
  intro e; (try simp only [e, etasX, -eq_self]); clear e
  refine ⟨fun c34 => ?_, fun c34 => ?_⟩
  · exact rok_k c33 c34
  · simp only [shas, rok_h (set := x.set) (i := 8) c34, Bool.false_and, Bool.and_false]
  refine ⟨fun c35 => ?_, fun c35 => ?_⟩
  intro e; (try simp only [e, etasX, -eq_self]); clear e
  refine ⟨fun c36 => ?_, fun c36 => ?_⟩
  · exact rok_s c35 c36
  · simp only [shas, rok_h (set := x.set) (i := 8) c36, Bool.false_and, Bool.and_false]
  · simp only [shas, rok_n (i := 8) (v := x.r8) c33 c35, Bool.false_and, Bool.and_false]
  intro ρ8 ha8 _ hi8
  have keepg8 := (varsD_ag ha8 _ 0 (by decide)).trans keepg7
  have g8 := keepg8
  simp only [d_Ty, v_Ty, d_Sta, v_Sta, d_Snap, v_Snap, d_Fr, v_Fr, varsD, varD, List.cons.injEq, Dt.z.injEq, Dt.l.injEq, b2i_eq_iff, Nat.reduceAdd, and_true] at g8
  simp only [g8, -eq_self]
  refine ⟨fun _ => rok x.set 9 s.r9 x.r9 = true, ?_, ?_⟩
  refine ⟨fun c37 => ?_, fun c37 => ?_⟩
  intro e; (try simp only [e, etasX, -eq_self]); clear e
  refine ⟨fun c38 => ?_, fun c38 => ?_⟩
  · exact rok_k c37 c38
  · simp only [shas, rok_h (set := x.set) (i := 9) c38, Bool.false_and, Bool.and_false]
  refine ⟨fun c39 => ?_, fun c39 => ?_⟩
  intro e; (try simp only [e, etasX, -eq_self]); clear e
  refine ⟨fun c40 => ?_, fun c40 => ?_⟩
  · exact rok_s c39 c40
  · simp only [shas, rok_h (set := x.set) (i := 9) c40, Bool.false_and, Bool.and_false]
  · simp only [shas, rok_n (i := 9) (v := x.r9) c37 c39, Bool.false_and, Bool.and_false]
  intro ρ9 ha9 _ hi9
  have keepg9 := (varsD_ag ha9 _ 0 (by decide)).trans keepg8
  have g9 := keepg9
  simp only [d_Ty, v_Ty, d_Sta, v_Sta, d_Snap, v_Snap, d_Fr, v_Fr, varsD, varD, List.cons.injEq, Dt.z.injEq, Dt.l.injEq, b2i_eq_iff, Nat.reduceAdd, and_true] at g9
  simp only [g9, -eq_self]
  refine ⟨fun _ => rok x.set 10 s.r10 x.r10 = true, ?_, ?_⟩
  refine ⟨fun c41 => ?_, fun c41 => ?_⟩
  intro e; (try simp only [e, etasX, -eq_self]); clear e
  refine ⟨fun c42 => ?_, fun c42 => ?_⟩
  · exact rok_k c41 c42
  · simp only [shas, rok_h (set := x.set) (i := 10) c42, Bool.false_and, Bool.and_false]
  refine ⟨fun c43 => ?_, fun c43 => ?_⟩
  intro e; (try simp only [e, etasX, -eq_self]); clear e
  refine ⟨fun c44 => ?_, fun c44 => ?_⟩
  · exact rok_s c43 c44
  · simp only [shas, rok_h (set := x.set) (i := 10) c44, Bool.false_and, Bool.and_false]
  · simp only [shas, rok_n (i := 10) (v := x.r10) c41 c43, Bool.false_and, Bool.and_false]
  intro ρ10 ha10 _ hi10
  have keepg10 := (varsD_ag ha10 _ 0 (by decide)).trans keepg9
  have g10 := keepg10
  simp only [d_Ty, v_Ty, d_Sta, v_Sta, d_Snap, v_Snap, d_Fr, v_Fr, varsD, varD, List.cons.injEq, Dt.z.injEq, Dt.l.injEq, b2i_eq_iff, Nat.reduceAdd, and_true] at g10
  simp only [g10, -eq_self]
  intro e; (try simp only [e, etasX, -eq_self]); clear e
  intro e; (try simp only [e, etasX, -eq_self]); clear e
  refine ⟨fun c45 => ?_, fun c45 => ?_⟩
  intro e; (try simp only [e, etasX, -eq_self]); clear e
  intro e; (try simp only [e, etasX, -eq_self]); clear e
  refine ⟨fun c46 => ?_, fun c46 => ?_⟩
  intro e; (try simp only [e, etasX, -eq_self]); clear e
  intro e; (try simp only [e, etasX, -eq_self]); clear e
  refine ⟨fun c47 => ?_, fun c47 => ?_⟩
  intro e; (try simp only [e, etasX, -eq_self]); clear e
  intro e; (try simp only [e, etasX, -eq_self]); clear e
  refine ⟨fun c48 => ?_, fun c48 => ?_⟩
  intro e; (try simp only [e, etasX, -eq_self]); clear e
  intro e; (try simp only [e, etasX, -eq_self]); clear e
  refine ⟨fun c49 => ?_, fun c49 => ?_⟩
  intro e; (try simp only [e, etasX, -eq_self]); clear e
  intro e; (try simp only [e, etasX, -eq_self]); clear e
  refine ⟨fun c50 => ?_, fun c50 => ?_⟩
  intro e; (try simp only [e, etasX, -eq_self]); clear e
  intro e; (try simp only [e, etasX, -eq_self]); clear e
  refine ⟨fun c51 => ?_, fun c51 => ?_⟩
  intro e; (try simp only [e, etasX, -eq_self]); clear e
  intro e; (try simp only [e, etasX, -eq_self]); clear e
  refine ⟨fun c52 => ?_, fun c52 => ?_⟩
  · simp only [shas, sword, c0, c45, c46, c47, c48, c49, c50, c51, c52, hi0, hi1, hi2, hi3, hi4, hi5, hi6, hi7, hi8, hi9, hi10, Bool.and_true, Bool.true_and]
  · simp only [shas, sword, c52, Bool.false_and, Bool.and_false]
  · simp only [shas, sword, c51, Bool.false_and, Bool.and_false]
  · simp only [shas, sword, c50, Bool.false_and, Bool.and_false]
  · simp only [shas, sword, c49, Bool.false_and, Bool.and_false]
  · simp only [shas, sword, c48, Bool.false_and, Bool.and_false]
  · simp only [shas, sword, c47, Bool.false_and, Bool.and_false]
  · simp only [shas, sword, c46, Bool.false_and, Bool.and_false]
  · simp only [shas, sword, c45, Bool.false_and, Bool.and_false]
  · simp only [shas, c0, Bool.false_and]
theorem sK_thas {sp : Spec} {key : Nat} (hF : sp.F key = sF_thas) (hP : sp.pre key = fun _ => True := by rfl) : SmOk Try.prog sp (sM_thas key) :=
  fun_ok (s := sM_thas key) hF hP (by kernel_rfl) tysok_SdD (smc (sK_tmay rfl) (smc (sK_thold rfl) (smc (sK_tword0 rfl) (smc (sK_tword1 rfl) (smc (sK_tword2 rfl) (smc (sK_tword3 rfl) (smc (sK_tword4 rfl) (smc (sK_tword5 rfl) (smc (sK_tword6 rfl) (smc (sK_tword7 rfl) sm0)))))))))) Try.func6 fn0 sR_thas (.inl rfl) (for_Sta fun q0 gq0 => for_Snap fun q1 gq1 => fun  hp ρ g => sX_thas q0 gq0 q1 gq1 ρ g)
end Go.Proofs.Ytgfghplnankgnaa

