/- Contracts of the two Regions. -/
import Derived.Test.YtmabagpagmcnlaaMmF
import Derived.Test.YtmabagpagmcnlaaMmB
import Derived.Test.YtmabagpagmcnlaaProg
import Derived.Laws.Externs
set_option linter.unusedVariables false
set_option linter.unusedSimpArgs false
namespace Go.Proofs.Ytmabagpagmcnlaa
open Go.RowKit Go.ChangeShapes Go.WideShapes

def tys_MmG : List (Nat × TI) := [(3, ⟨false, 1, [.int .i64 (.lit 0)], [], none, some .i64, false, false, none, 8, false, none, false, 0⟩),
 (23, ⟨false, 1, [.int .u64 (.lit 0)], [], none, some .u64, false, false, none, 8, false, none, false, 0⟩),
 (38, ⟨false, 1, [.int .i8 (.lit 0)], [], none, some .i8, false, false, none, 1, false, none, false, 0⟩),
 (91, ⟨true, 4, [.int .u64 (.lit 0), .int .u64 (.lit 0), .int .u64 (.lit 0), .int .u64 (.lit 0)], [], some (4, 23), none, false, false, none, 32, false, none, false, 0⟩)]
set_option maxRecDepth 100000 in
theorem tysck_MmG : (tys_MmG.all fun p => ckTI Try.prog p.1 p.2) = true := by kernel_rfl
theorem tyseq_MmG : (tys_MmG.all fun p => !p.2.eqok) = true := by kernel_rfl
theorem tyskn_MmG : (tys_MmG.all fun p => !p.2.keyok) = true := by kernel_rfl
theorem tysok_MmG : ∀ t i, (t, i) ∈ tys_MmG → TIok Try.prog t i := by
  intro t i h
  refine TIok_of (all_at (f := ckTI Try.prog) tysck_MmG h) (fun he => ?_) (fun he => ?_) (fun he => ?_)
  · have h1 := List.all_eq_true.1 tyseq_MmG (t, i) h
    simp [he] at h1
  · have h1 := List.all_eq_true.1 tyseq_MmG (t, i) h
    simp [he] at h1
  · have h1 := List.all_eq_true.1 tyskn_MmG (t, i) h
    simp [he] at h1
def sM_mregn (key : Nat) : Sm := ⟨17, key, [.one (.int .u64), .one (.int .i64), .one (.int .i64), .one .bool], [.one (.int .i8)], false⟩
def sV_mregn (at_ : Int) (cx : Int) (tx : Int) (ws : Bool) : List Dt := [.z (rgn at_ cx tx ws)]
def sF_mregn : List Dt → List Dt
  | [.z x0, .z x1, .z x2, .z x3] => sV_mregn x0 x1 x2 (x3 == 1)
  | _ => []
set_option maxRecDepth 100000 in
def sT_mregn : Tr :=
(.br (.bvar 3)
(.br (.lt (.var 0) (.lit 1048576))
(.br (.lt (.var 0) (.lit 2097152))
(.br (.lt (.var 0) (.lit 3145728))
(.br (.lt (.var 0) (.lit 4194304))
(.leaf (.cons (.lit 0) .nil))
(.br (.lt (.bin .sub .u64 (.var 0) (.lit 4194304)) (.lit 264))
(.leaf (.cons (.lit 4) .nil))
(.leaf (.cons (.lit 0) .nil))))
(.br (.lt (.bin .sub .u64 (.var 0) (.lit 3145728)) (.lit 64))
(.leaf (.cons (.lit 3) .nil))
(.br (.lt (.var 0) (.lit 4194304))
(.leaf (.cons (.lit 0) .nil))
(.br (.lt (.bin .sub .u64 (.var 0) (.lit 4194304)) (.lit 264))
(.leaf (.cons (.lit 4) .nil))
(.leaf (.cons (.lit 0) .nil))))))
(.br (.lt (.bin .sub .u64 (.var 0) (.lit 2097152)) (.conv .u64 (.mn (.mx (.var 1) (.lit 0)) (.lit 256))))
(.leaf (.cons (.lit 2) .nil))
(.br (.lt (.var 0) (.lit 3145728))
(.br (.lt (.var 0) (.lit 4194304))
(.leaf (.cons (.lit 0) .nil))
(.br (.lt (.bin .sub .u64 (.var 0) (.lit 4194304)) (.lit 264))
(.leaf (.cons (.lit 4) .nil))
(.leaf (.cons (.lit 0) .nil))))
(.br (.lt (.bin .sub .u64 (.var 0) (.lit 3145728)) (.lit 64))
(.leaf (.cons (.lit 3) .nil))
(.br (.lt (.var 0) (.lit 4194304))
(.leaf (.cons (.lit 0) .nil))
(.br (.lt (.bin .sub .u64 (.var 0) (.lit 4194304)) (.lit 264))
(.leaf (.cons (.lit 4) .nil))
(.leaf (.cons (.lit 0) .nil))))))))
(.br (.lt (.bin .sub .u64 (.var 0) (.lit 1048576)) (.conv .u64 (.mn (.mx (.var 2) (.lit 0)) (.lit 16384))))
(.leaf (.cons (.lit 1) .nil))
(.br (.lt (.var 0) (.lit 2097152))
(.br (.lt (.var 0) (.lit 3145728))
(.br (.lt (.var 0) (.lit 4194304))
(.leaf (.cons (.lit 0) .nil))
(.br (.lt (.bin .sub .u64 (.var 0) (.lit 4194304)) (.lit 264))
(.leaf (.cons (.lit 4) .nil))
(.leaf (.cons (.lit 0) .nil))))
(.br (.lt (.bin .sub .u64 (.var 0) (.lit 3145728)) (.lit 64))
(.leaf (.cons (.lit 3) .nil))
(.br (.lt (.var 0) (.lit 4194304))
(.leaf (.cons (.lit 0) .nil))
(.br (.lt (.bin .sub .u64 (.var 0) (.lit 4194304)) (.lit 264))
(.leaf (.cons (.lit 4) .nil))
(.leaf (.cons (.lit 0) .nil))))))
(.br (.lt (.bin .sub .u64 (.var 0) (.lit 2097152)) (.conv .u64 (.mn (.mx (.var 1) (.lit 0)) (.lit 256))))
(.leaf (.cons (.lit 2) .nil))
(.br (.lt (.var 0) (.lit 3145728))
(.br (.lt (.var 0) (.lit 4194304))
(.leaf (.cons (.lit 0) .nil))
(.br (.lt (.bin .sub .u64 (.var 0) (.lit 4194304)) (.lit 264))
(.leaf (.cons (.lit 4) .nil))
(.leaf (.cons (.lit 0) .nil))))
(.br (.lt (.bin .sub .u64 (.var 0) (.lit 3145728)) (.lit 64))
(.leaf (.cons (.lit 3) .nil))
(.br (.lt (.var 0) (.lit 4194304))
(.leaf (.cons (.lit 0) .nil))
(.br (.lt (.bin .sub .u64 (.var 0) (.lit 4194304)) (.lit 264))
(.leaf (.cons (.lit 4) .nil))
(.leaf (.cons (.lit 0) .nil))))))))))
(.br (.lt (.var 0) (.lit 1048576))
(.br (.lt (.var 0) (.lit 2097152))
(.br (.lt (.var 0) (.lit 3145728))
(.br (.lt (.var 0) (.lit 4194304))
(.leaf (.cons (.lit 0) .nil))
(.br (.lt (.bin .sub .u64 (.var 0) (.lit 4194304)) (.lit 0))
(.leaf (.cons (.lit 4) .nil))
(.leaf (.cons (.lit 0) .nil))))
(.br (.lt (.bin .sub .u64 (.var 0) (.lit 3145728)) (.lit 64))
(.leaf (.cons (.lit 3) .nil))
(.br (.lt (.var 0) (.lit 4194304))
(.leaf (.cons (.lit 0) .nil))
(.br (.lt (.bin .sub .u64 (.var 0) (.lit 4194304)) (.lit 0))
(.leaf (.cons (.lit 4) .nil))
(.leaf (.cons (.lit 0) .nil))))))
(.br (.lt (.bin .sub .u64 (.var 0) (.lit 2097152)) (.conv .u64 (.mn (.mx (.var 1) (.lit 0)) (.lit 256))))
(.leaf (.cons (.lit 2) .nil))
(.br (.lt (.var 0) (.lit 3145728))
(.br (.lt (.var 0) (.lit 4194304))
(.leaf (.cons (.lit 0) .nil))
(.br (.lt (.bin .sub .u64 (.var 0) (.lit 4194304)) (.lit 0))
(.leaf (.cons (.lit 4) .nil))
(.leaf (.cons (.lit 0) .nil))))
(.br (.lt (.bin .sub .u64 (.var 0) (.lit 3145728)) (.lit 64))
(.leaf (.cons (.lit 3) .nil))
(.br (.lt (.var 0) (.lit 4194304))
(.leaf (.cons (.lit 0) .nil))
(.br (.lt (.bin .sub .u64 (.var 0) (.lit 4194304)) (.lit 0))
(.leaf (.cons (.lit 4) .nil))
(.leaf (.cons (.lit 0) .nil))))))))
(.br (.lt (.bin .sub .u64 (.var 0) (.lit 1048576)) (.conv .u64 (.mn (.mx (.var 2) (.lit 0)) (.lit 16384))))
(.leaf (.cons (.lit 1) .nil))
(.br (.lt (.var 0) (.lit 2097152))
(.br (.lt (.var 0) (.lit 3145728))
(.br (.lt (.var 0) (.lit 4194304))
(.leaf (.cons (.lit 0) .nil))
(.br (.lt (.bin .sub .u64 (.var 0) (.lit 4194304)) (.lit 0))
(.leaf (.cons (.lit 4) .nil))
(.leaf (.cons (.lit 0) .nil))))
(.br (.lt (.bin .sub .u64 (.var 0) (.lit 3145728)) (.lit 64))
(.leaf (.cons (.lit 3) .nil))
(.br (.lt (.var 0) (.lit 4194304))
(.leaf (.cons (.lit 0) .nil))
(.br (.lt (.bin .sub .u64 (.var 0) (.lit 4194304)) (.lit 0))
(.leaf (.cons (.lit 4) .nil))
(.leaf (.cons (.lit 0) .nil))))))
(.br (.lt (.bin .sub .u64 (.var 0) (.lit 2097152)) (.conv .u64 (.mn (.mx (.var 1) (.lit 0)) (.lit 256))))
(.leaf (.cons (.lit 2) .nil))
(.br (.lt (.var 0) (.lit 3145728))
(.br (.lt (.var 0) (.lit 4194304))
(.leaf (.cons (.lit 0) .nil))
(.br (.lt (.bin .sub .u64 (.var 0) (.lit 4194304)) (.lit 0))
(.leaf (.cons (.lit 4) .nil))
(.leaf (.cons (.lit 0) .nil))))
(.br (.lt (.bin .sub .u64 (.var 0) (.lit 3145728)) (.lit 64))
(.leaf (.cons (.lit 3) .nil))
(.br (.lt (.var 0) (.lit 4194304))
(.leaf (.cons (.lit 0) .nil))
(.br (.lt (.bin .sub .u64 (.var 0) (.lit 4194304)) (.lit 0))
(.leaf (.cons (.lit 4) .nil))
(.leaf (.cons (.lit 0) .nil)))))))))))
def sP_mregn : Spec := ⟨fun k => match k with | _ => fun _ => [], fun k => match k with | _ => fun _ => True⟩
set_option maxRecDepth 100000 in
theorem sR_mregn : treeIs tys_MmG [] [] [] [] 200 Try.f17 [.one (.int .u64), .one (.int .i64), .one (.int .i64), .one .bool] [.one (.int .i8)] false [.int .u64, .int .i64, .int .i64, .bool] sT_mregn := ⟨by kernel_rfl, by kernel_rfl, by kernel_rfl⟩
set_option maxRecDepth 100000 in
set_option maxHeartbeats 8000000 in
theorem sX_mregn (at_ : Int) (hat_ : inK .u64 at_ = true) (cx : Int) (hcx : inK .i64 cx = true) (tx : Int) (htx : inK .i64 tx = true) (ws : Bool) (ρ : Env) (g : varsD ρ 0 [.int .u64, .int .i64, .int .i64, .bool] = [.z at_, .z cx, .z tx, .z (b2i ws)]) : sT_mregn.asks sP_mregn (fun ρ e => e.D ρ = sF_mregn [.z at_, .z cx, .z tx, .z (b2i ws)]) ρ fun _ _ => False := by
  simp only [varsD, varD, List.cons.injEq, Dt.z.injEq, Dt.l.injEq, b2i_eq_iff, Nat.reduceAdd, and_true] at g
  simp only [sT_mregn, sP_mregn, sF_mregn, sV_mregn, Tr.asks, upd_same, okDs, okD, eqs, E.I, E.B, E.L, E.R, E.D, E.vs, dI, dB, dL, varD, varsD, List.getElem?_cons_zero, List.getElem?_cons_succ, List.cons_append, List.nil_append, Nat.zero_add, Nat.add_zero, Nat.reduceAdd, and_true, true_and, b2i_one, -eq_self, Mem.eta, g]
  obtain ⟨k0_i0, k0_i1, k0_i2, k0_b3⟩ := g
  refine ⟨fun c0 => ?_, fun c0 => ?_⟩
  refine ⟨fun c1 => ?_, fun c1 => ?_⟩
  refine ⟨fun c2 => ?_, fun c2 => ?_⟩
  refine ⟨fun c3 => ?_, fun c3 => ?_⟩
  refine ⟨fun c4 => ?_, fun c4 => ?_⟩
  · have ha := in_u64 hat_
    have d1 := of_decide_eq_true c1
    have d2 := of_decide_eq_true c2
    have d3 := of_decide_eq_true c3
    have d4 := of_decide_eq_true c4
    unfold rgn
    rw [if_neg (by omega), if_neg (by omega), if_neg (by omega), if_neg (fun h4 => by first | omega | exact absurd h4.2.2 (by rw [c0]; decide))]
  refine ⟨fun c5 => ?_, fun c5 => ?_⟩
  · have ha := in_u64 hat_
    have d1 := of_decide_eq_true c1
    have d2 := of_decide_eq_true c2
    have d3 := of_decide_eq_true c3
    have d4 := of_decide_eq_false c4
    have d5 := of_decide_eq_true c5
    rw [show opI .sub .u64 at_ 4194304 = at_ - 4194304 from wrU (by omega) (by omega)] at d5
    unfold rgn
    rw [if_neg (by omega), if_neg (by omega), if_neg (by omega), if_pos ⟨by omega, by omega, c0⟩]
  · have ha := in_u64 hat_
    have d1 := of_decide_eq_true c1
    have d2 := of_decide_eq_true c2
    have d3 := of_decide_eq_true c3
    have d4 := of_decide_eq_false c4
    have d5 := of_decide_eq_false c5
    rw [show opI .sub .u64 at_ 4194304 = at_ - 4194304 from wrU (by omega) (by omega)] at d5
    unfold rgn
    rw [if_neg (by omega), if_neg (by omega), if_neg (by omega), if_neg (fun h4 => by first | omega | exact absurd h4.2.2 (by rw [c0]; decide))]
  refine ⟨fun c6 => ?_, fun c6 => ?_⟩
  · have ha := in_u64 hat_
    have d1 := of_decide_eq_true c1
    have d2 := of_decide_eq_true c2
    have d3 := of_decide_eq_false c3
    have d6 := of_decide_eq_true c6
    rw [show opI .sub .u64 at_ 3145728 = at_ - 3145728 from wrU (by omega) (by omega)] at d6
    unfold rgn
    rw [if_neg (by omega), if_neg (by omega), if_pos (by omega)]
  refine ⟨fun c7 => ?_, fun c7 => ?_⟩
  · have ha := in_u64 hat_
    have d1 := of_decide_eq_true c1
    have d2 := of_decide_eq_true c2
    have d3 := of_decide_eq_false c3
    have d6 := of_decide_eq_false c6
    rw [show opI .sub .u64 at_ 3145728 = at_ - 3145728 from wrU (by omega) (by omega)] at d6
    have d7 := of_decide_eq_true c7
    unfold rgn
    rw [if_neg (by omega), if_neg (by omega), if_neg (by omega), if_neg (fun h4 => by first | omega | exact absurd h4.2.2 (by rw [c0]; decide))]
  refine ⟨fun c8 => ?_, fun c8 => ?_⟩
  · have ha := in_u64 hat_
    have d1 := of_decide_eq_true c1
    have d2 := of_decide_eq_true c2
    have d3 := of_decide_eq_false c3
    have d6 := of_decide_eq_false c6
    rw [show opI .sub .u64 at_ 3145728 = at_ - 3145728 from wrU (by omega) (by omega)] at d6
    have d7 := of_decide_eq_false c7
    have d8 := of_decide_eq_true c8
    rw [show opI .sub .u64 at_ 4194304 = at_ - 4194304 from wrU (by omega) (by omega)] at d8
    unfold rgn
    rw [if_neg (by omega), if_neg (by omega), if_neg (by omega), if_pos ⟨by omega, by omega, c0⟩]
  · have ha := in_u64 hat_
    have d1 := of_decide_eq_true c1
    have d2 := of_decide_eq_true c2
    have d3 := of_decide_eq_false c3
    have d6 := of_decide_eq_false c6
    rw [show opI .sub .u64 at_ 3145728 = at_ - 3145728 from wrU (by omega) (by omega)] at d6
    have d7 := of_decide_eq_false c7
    have d8 := of_decide_eq_false c8
    rw [show opI .sub .u64 at_ 4194304 = at_ - 4194304 from wrU (by omega) (by omega)] at d8
    unfold rgn
    rw [if_neg (by omega), if_neg (by omega), if_neg (by omega), if_neg (fun h4 => by first | omega | exact absurd h4.2.2 (by rw [c0]; decide))]
  refine ⟨fun c9 => ?_, fun c9 => ?_⟩
  · have ha := in_u64 hat_
    have d1 := of_decide_eq_true c1
    have d2 := of_decide_eq_false c2
    have d9 := of_decide_eq_true c9
    rw [show opI .sub .u64 at_ 2097152 = at_ - 2097152 from wrU (by omega) (by omega)] at d9
    rw [show IntKind.u64.wrap (min (max cx 0) 256) = min (max cx 0) 256 from wrU (by omega) (by omega)] at d9
    unfold rgn
    rw [if_neg (by omega), if_pos (by omega)]
  refine ⟨fun c10 => ?_, fun c10 => ?_⟩
  refine ⟨fun c11 => ?_, fun c11 => ?_⟩
  · have ha := in_u64 hat_
    have d1 := of_decide_eq_true c1
    have d2 := of_decide_eq_false c2
    have d9 := of_decide_eq_false c9
    rw [show opI .sub .u64 at_ 2097152 = at_ - 2097152 from wrU (by omega) (by omega)] at d9
    rw [show IntKind.u64.wrap (min (max cx 0) 256) = min (max cx 0) 256 from wrU (by omega) (by omega)] at d9
    have d10 := of_decide_eq_true c10
    have d11 := of_decide_eq_true c11
    unfold rgn
    rw [if_neg (by omega), if_neg (by omega), if_neg (by omega), if_neg (fun h4 => by first | omega | exact absurd h4.2.2 (by rw [c0]; decide))]
  refine ⟨fun c12 => ?_, fun c12 => ?_⟩
  · have ha := in_u64 hat_
    have d1 := of_decide_eq_true c1
    have d2 := of_decide_eq_false c2
    have d9 := of_decide_eq_false c9
    rw [show opI .sub .u64 at_ 2097152 = at_ - 2097152 from wrU (by omega) (by omega)] at d9
    rw [show IntKind.u64.wrap (min (max cx 0) 256) = min (max cx 0) 256 from wrU (by omega) (by omega)] at d9
    have d10 := of_decide_eq_true c10
    have d11 := of_decide_eq_false c11
    have d12 := of_decide_eq_true c12
    rw [show opI .sub .u64 at_ 4194304 = at_ - 4194304 from wrU (by omega) (by omega)] at d12
    unfold rgn
    rw [if_neg (by omega), if_neg (by omega), if_neg (by omega), if_pos ⟨by omega, by omega, c0⟩]
  · have ha := in_u64 hat_
    have d1 := of_decide_eq_true c1
    have d2 := of_decide_eq_false c2
    have d9 := of_decide_eq_false c9
    rw [show opI .sub .u64 at_ 2097152 = at_ - 2097152 from wrU (by omega) (by omega)] at d9
    rw [show IntKind.u64.wrap (min (max cx 0) 256) = min (max cx 0) 256 from wrU (by omega) (by omega)] at d9
    have d10 := of_decide_eq_true c10
    have d11 := of_decide_eq_false c11
    have d12 := of_decide_eq_false c12
    rw [show opI .sub .u64 at_ 4194304 = at_ - 4194304 from wrU (by omega) (by omega)] at d12
    unfold rgn
    rw [if_neg (by omega), if_neg (by omega), if_neg (by omega), if_neg (fun h4 => by first | omega | exact absurd h4.2.2 (by rw [c0]; decide))]
  refine ⟨fun c13 => ?_, fun c13 => ?_⟩
  · have ha := in_u64 hat_
    have d1 := of_decide_eq_true c1
    have d2 := of_decide_eq_false c2
    have d9 := of_decide_eq_false c9
    rw [show opI .sub .u64 at_ 2097152 = at_ - 2097152 from wrU (by omega) (by omega)] at d9
    rw [show IntKind.u64.wrap (min (max cx 0) 256) = min (max cx 0) 256 from wrU (by omega) (by omega)] at d9
    have d10 := of_decide_eq_false c10
    have d13 := of_decide_eq_true c13
    rw [show opI .sub .u64 at_ 3145728 = at_ - 3145728 from wrU (by omega) (by omega)] at d13
    unfold rgn
    rw [if_neg (by omega), if_neg (by omega), if_pos (by omega)]
  refine ⟨fun c14 => ?_, fun c14 => ?_⟩
  · have ha := in_u64 hat_
    have d1 := of_decide_eq_true c1
    have d2 := of_decide_eq_false c2
    have d9 := of_decide_eq_false c9
    rw [show opI .sub .u64 at_ 2097152 = at_ - 2097152 from wrU (by omega) (by omega)] at d9
    rw [show IntKind.u64.wrap (min (max cx 0) 256) = min (max cx 0) 256 from wrU (by omega) (by omega)] at d9
    have d10 := of_decide_eq_false c10
    have d13 := of_decide_eq_false c13
    rw [show opI .sub .u64 at_ 3145728 = at_ - 3145728 from wrU (by omega) (by omega)] at d13
    have d14 := of_decide_eq_true c14
    unfold rgn
    rw [if_neg (by omega), if_neg (by omega), if_neg (by omega), if_neg (fun h4 => by first | omega | exact absurd h4.2.2 (by rw [c0]; decide))]
  refine ⟨fun c15 => ?_, fun c15 => ?_⟩
  · have ha := in_u64 hat_
    have d1 := of_decide_eq_true c1
    have d2 := of_decide_eq_false c2
    have d9 := of_decide_eq_false c9
    rw [show opI .sub .u64 at_ 2097152 = at_ - 2097152 from wrU (by omega) (by omega)] at d9
    rw [show IntKind.u64.wrap (min (max cx 0) 256) = min (max cx 0) 256 from wrU (by omega) (by omega)] at d9
    have d10 := of_decide_eq_false c10
    have d13 := of_decide_eq_false c13
    rw [show opI .sub .u64 at_ 3145728 = at_ - 3145728 from wrU (by omega) (by omega)] at d13
    have d14 := of_decide_eq_false c14
    have d15 := of_decide_eq_true c15
    rw [show opI .sub .u64 at_ 4194304 = at_ - 4194304 from wrU (by omega) (by omega)] at d15
    unfold rgn
    rw [if_neg (by omega), if_neg (by omega), if_neg (by omega), if_pos ⟨by omega, by omega, c0⟩]
  · have ha := in_u64 hat_
    have d1 := of_decide_eq_true c1
    have d2 := of_decide_eq_false c2
    have d9 := of_decide_eq_false c9
    rw [show opI .sub .u64 at_ 2097152 = at_ - 2097152 from wrU (by omega) (by omega)] at d9
    rw [show IntKind.u64.wrap (min (max cx 0) 256) = min (max cx 0) 256 from wrU (by omega) (by omega)] at d9
    have d10 := of_decide_eq_false c10
    have d13 := of_decide_eq_false c13
    rw [show opI .sub .u64 at_ 3145728 = at_ - 3145728 from wrU (by omega) (by omega)] at d13
    have d14 := of_decide_eq_false c14
    have d15 := of_decide_eq_false c15
    rw [show opI .sub .u64 at_ 4194304 = at_ - 4194304 from wrU (by omega) (by omega)] at d15
    unfold rgn
    rw [if_neg (by omega), if_neg (by omega), if_neg (by omega), if_neg (fun h4 => by first | omega | exact absurd h4.2.2 (by rw [c0]; decide))]
  refine ⟨fun c16 => ?_, fun c16 => ?_⟩
  · have ha := in_u64 hat_
    have d1 := of_decide_eq_false c1
    have d16 := of_decide_eq_true c16
    rw [show opI .sub .u64 at_ 1048576 = at_ - 1048576 from wrU (by omega) (by omega)] at d16
    rw [show IntKind.u64.wrap (min (max tx 0) 16384) = min (max tx 0) 16384 from wrU (by omega) (by omega)] at d16
    unfold rgn
    rw [if_pos (by omega)]
  refine ⟨fun c17 => ?_, fun c17 => ?_⟩
  refine ⟨fun c18 => ?_, fun c18 => ?_⟩
  refine ⟨fun c19 => ?_, fun c19 => ?_⟩
  · have ha := in_u64 hat_
    have d1 := of_decide_eq_false c1
    have d16 := of_decide_eq_false c16
    rw [show opI .sub .u64 at_ 1048576 = at_ - 1048576 from wrU (by omega) (by omega)] at d16
    rw [show IntKind.u64.wrap (min (max tx 0) 16384) = min (max tx 0) 16384 from wrU (by omega) (by omega)] at d16
    have d17 := of_decide_eq_true c17
    have d18 := of_decide_eq_true c18
    have d19 := of_decide_eq_true c19
    unfold rgn
    rw [if_neg (by omega), if_neg (by omega), if_neg (by omega), if_neg (fun h4 => by first | omega | exact absurd h4.2.2 (by rw [c0]; decide))]
  refine ⟨fun c20 => ?_, fun c20 => ?_⟩
  · have ha := in_u64 hat_
    have d1 := of_decide_eq_false c1
    have d16 := of_decide_eq_false c16
    rw [show opI .sub .u64 at_ 1048576 = at_ - 1048576 from wrU (by omega) (by omega)] at d16
    rw [show IntKind.u64.wrap (min (max tx 0) 16384) = min (max tx 0) 16384 from wrU (by omega) (by omega)] at d16
    have d17 := of_decide_eq_true c17
    have d18 := of_decide_eq_true c18
    have d19 := of_decide_eq_false c19
    have d20 := of_decide_eq_true c20
    rw [show opI .sub .u64 at_ 4194304 = at_ - 4194304 from wrU (by omega) (by omega)] at d20
    unfold rgn
    rw [if_neg (by omega), if_neg (by omega), if_neg (by omega), if_pos ⟨by omega, by omega, c0⟩]
  · have ha := in_u64 hat_
    have d1 := of_decide_eq_false c1
    have d16 := of_decide_eq_false c16
    rw [show opI .sub .u64 at_ 1048576 = at_ - 1048576 from wrU (by omega) (by omega)] at d16
    rw [show IntKind.u64.wrap (min (max tx 0) 16384) = min (max tx 0) 16384 from wrU (by omega) (by omega)] at d16
    have d17 := of_decide_eq_true c17
    have d18 := of_decide_eq_true c18
    have d19 := of_decide_eq_false c19
    have d20 := of_decide_eq_false c20
    rw [show opI .sub .u64 at_ 4194304 = at_ - 4194304 from wrU (by omega) (by omega)] at d20
    unfold rgn
    rw [if_neg (by omega), if_neg (by omega), if_neg (by omega), if_neg (fun h4 => by first | omega | exact absurd h4.2.2 (by rw [c0]; decide))]
  refine ⟨fun c21 => ?_, fun c21 => ?_⟩
  · have ha := in_u64 hat_
    have d1 := of_decide_eq_false c1
    have d16 := of_decide_eq_false c16
    rw [show opI .sub .u64 at_ 1048576 = at_ - 1048576 from wrU (by omega) (by omega)] at d16
    rw [show IntKind.u64.wrap (min (max tx 0) 16384) = min (max tx 0) 16384 from wrU (by omega) (by omega)] at d16
    have d17 := of_decide_eq_true c17
    have d18 := of_decide_eq_false c18
    have d21 := of_decide_eq_true c21
    rw [show opI .sub .u64 at_ 3145728 = at_ - 3145728 from wrU (by omega) (by omega)] at d21
    unfold rgn
    rw [if_neg (by omega), if_neg (by omega), if_pos (by omega)]
  refine ⟨fun c22 => ?_, fun c22 => ?_⟩
  · have ha := in_u64 hat_
    have d1 := of_decide_eq_false c1
    have d16 := of_decide_eq_false c16
    rw [show opI .sub .u64 at_ 1048576 = at_ - 1048576 from wrU (by omega) (by omega)] at d16
    rw [show IntKind.u64.wrap (min (max tx 0) 16384) = min (max tx 0) 16384 from wrU (by omega) (by omega)] at d16
    have d17 := of_decide_eq_true c17
    have d18 := of_decide_eq_false c18
    have d21 := of_decide_eq_false c21
    rw [show opI .sub .u64 at_ 3145728 = at_ - 3145728 from wrU (by omega) (by omega)] at d21
    have d22 := of_decide_eq_true c22
    unfold rgn
    rw [if_neg (by omega), if_neg (by omega), if_neg (by omega), if_neg (fun h4 => by first | omega | exact absurd h4.2.2 (by rw [c0]; decide))]
  refine ⟨fun c23 => ?_, fun c23 => ?_⟩
  · have ha := in_u64 hat_
    have d1 := of_decide_eq_false c1
    have d16 := of_decide_eq_false c16
    rw [show opI .sub .u64 at_ 1048576 = at_ - 1048576 from wrU (by omega) (by omega)] at d16
    rw [show IntKind.u64.wrap (min (max tx 0) 16384) = min (max tx 0) 16384 from wrU (by omega) (by omega)] at d16
    have d17 := of_decide_eq_true c17
    have d18 := of_decide_eq_false c18
    have d21 := of_decide_eq_false c21
    rw [show opI .sub .u64 at_ 3145728 = at_ - 3145728 from wrU (by omega) (by omega)] at d21
    have d22 := of_decide_eq_false c22
    have d23 := of_decide_eq_true c23
    rw [show opI .sub .u64 at_ 4194304 = at_ - 4194304 from wrU (by omega) (by omega)] at d23
    unfold rgn
    rw [if_neg (by omega), if_neg (by omega), if_neg (by omega), if_pos ⟨by omega, by omega, c0⟩]
  · have ha := in_u64 hat_
    have d1 := of_decide_eq_false c1
    have d16 := of_decide_eq_false c16
    rw [show opI .sub .u64 at_ 1048576 = at_ - 1048576 from wrU (by omega) (by omega)] at d16
    rw [show IntKind.u64.wrap (min (max tx 0) 16384) = min (max tx 0) 16384 from wrU (by omega) (by omega)] at d16
    have d17 := of_decide_eq_true c17
    have d18 := of_decide_eq_false c18
    have d21 := of_decide_eq_false c21
    rw [show opI .sub .u64 at_ 3145728 = at_ - 3145728 from wrU (by omega) (by omega)] at d21
    have d22 := of_decide_eq_false c22
    have d23 := of_decide_eq_false c23
    rw [show opI .sub .u64 at_ 4194304 = at_ - 4194304 from wrU (by omega) (by omega)] at d23
    unfold rgn
    rw [if_neg (by omega), if_neg (by omega), if_neg (by omega), if_neg (fun h4 => by first | omega | exact absurd h4.2.2 (by rw [c0]; decide))]
  refine ⟨fun c24 => ?_, fun c24 => ?_⟩
  · have ha := in_u64 hat_
    have d1 := of_decide_eq_false c1
    have d16 := of_decide_eq_false c16
    rw [show opI .sub .u64 at_ 1048576 = at_ - 1048576 from wrU (by omega) (by omega)] at d16
    rw [show IntKind.u64.wrap (min (max tx 0) 16384) = min (max tx 0) 16384 from wrU (by omega) (by omega)] at d16
    have d17 := of_decide_eq_false c17
    have d24 := of_decide_eq_true c24
    rw [show opI .sub .u64 at_ 2097152 = at_ - 2097152 from wrU (by omega) (by omega)] at d24
    rw [show IntKind.u64.wrap (min (max cx 0) 256) = min (max cx 0) 256 from wrU (by omega) (by omega)] at d24
    unfold rgn
    rw [if_neg (by omega), if_pos (by omega)]
  refine ⟨fun c25 => ?_, fun c25 => ?_⟩
  refine ⟨fun c26 => ?_, fun c26 => ?_⟩
  · have ha := in_u64 hat_
    have d1 := of_decide_eq_false c1
    have d16 := of_decide_eq_false c16
    rw [show opI .sub .u64 at_ 1048576 = at_ - 1048576 from wrU (by omega) (by omega)] at d16
    rw [show IntKind.u64.wrap (min (max tx 0) 16384) = min (max tx 0) 16384 from wrU (by omega) (by omega)] at d16
    have d17 := of_decide_eq_false c17
    have d24 := of_decide_eq_false c24
    rw [show opI .sub .u64 at_ 2097152 = at_ - 2097152 from wrU (by omega) (by omega)] at d24
    rw [show IntKind.u64.wrap (min (max cx 0) 256) = min (max cx 0) 256 from wrU (by omega) (by omega)] at d24
    have d25 := of_decide_eq_true c25
    have d26 := of_decide_eq_true c26
    unfold rgn
    rw [if_neg (by omega), if_neg (by omega), if_neg (by omega), if_neg (fun h4 => by first | omega | exact absurd h4.2.2 (by rw [c0]; decide))]
  refine ⟨fun c27 => ?_, fun c27 => ?_⟩
  · have ha := in_u64 hat_
    have d1 := of_decide_eq_false c1
    have d16 := of_decide_eq_false c16
    rw [show opI .sub .u64 at_ 1048576 = at_ - 1048576 from wrU (by omega) (by omega)] at d16
    rw [show IntKind.u64.wrap (min (max tx 0) 16384) = min (max tx 0) 16384 from wrU (by omega) (by omega)] at d16
    have d17 := of_decide_eq_false c17
    have d24 := of_decide_eq_false c24
    rw [show opI .sub .u64 at_ 2097152 = at_ - 2097152 from wrU (by omega) (by omega)] at d24
    rw [show IntKind.u64.wrap (min (max cx 0) 256) = min (max cx 0) 256 from wrU (by omega) (by omega)] at d24
    have d25 := of_decide_eq_true c25
    have d26 := of_decide_eq_false c26
    have d27 := of_decide_eq_true c27
    rw [show opI .sub .u64 at_ 4194304 = at_ - 4194304 from wrU (by omega) (by omega)] at d27
    unfold rgn
    rw [if_neg (by omega), if_neg (by omega), if_neg (by omega), if_pos ⟨by omega, by omega, c0⟩]
  · have ha := in_u64 hat_
    have d1 := of_decide_eq_false c1
    have d16 := of_decide_eq_false c16
    rw [show opI .sub .u64 at_ 1048576 = at_ - 1048576 from wrU (by omega) (by omega)] at d16
    rw [show IntKind.u64.wrap (min (max tx 0) 16384) = min (max tx 0) 16384 from wrU (by omega) (by omega)] at d16
    have d17 := of_decide_eq_false c17
    have d24 := of_decide_eq_false c24
    rw [show opI .sub .u64 at_ 2097152 = at_ - 2097152 from wrU (by omega) (by omega)] at d24
    rw [show IntKind.u64.wrap (min (max cx 0) 256) = min (max cx 0) 256 from wrU (by omega) (by omega)] at d24
    have d25 := of_decide_eq_true c25
    have d26 := of_decide_eq_false c26
    have d27 := of_decide_eq_false c27
    rw [show opI .sub .u64 at_ 4194304 = at_ - 4194304 from wrU (by omega) (by omega)] at d27
    unfold rgn
    rw [if_neg (by omega), if_neg (by omega), if_neg (by omega), if_neg (fun h4 => by first | omega | exact absurd h4.2.2 (by rw [c0]; decide))]
  refine ⟨fun c28 => ?_, fun c28 => ?_⟩
  · have ha := in_u64 hat_
    have d1 := of_decide_eq_false c1
    have d16 := of_decide_eq_false c16
    rw [show opI .sub .u64 at_ 1048576 = at_ - 1048576 from wrU (by omega) (by omega)] at d16
    rw [show IntKind.u64.wrap (min (max tx 0) 16384) = min (max tx 0) 16384 from wrU (by omega) (by omega)] at d16
    have d17 := of_decide_eq_false c17
    have d24 := of_decide_eq_false c24
    rw [show opI .sub .u64 at_ 2097152 = at_ - 2097152 from wrU (by omega) (by omega)] at d24
    rw [show IntKind.u64.wrap (min (max cx 0) 256) = min (max cx 0) 256 from wrU (by omega) (by omega)] at d24
    have d25 := of_decide_eq_false c25
    have d28 := of_decide_eq_true c28
    rw [show opI .sub .u64 at_ 3145728 = at_ - 3145728 from wrU (by omega) (by omega)] at d28
    unfold rgn
    rw [if_neg (by omega), if_neg (by omega), if_pos (by omega)]
  refine ⟨fun c29 => ?_, fun c29 => ?_⟩
  · have ha := in_u64 hat_
    have d1 := of_decide_eq_false c1
    have d16 := of_decide_eq_false c16
    rw [show opI .sub .u64 at_ 1048576 = at_ - 1048576 from wrU (by omega) (by omega)] at d16
    rw [show IntKind.u64.wrap (min (max tx 0) 16384) = min (max tx 0) 16384 from wrU (by omega) (by omega)] at d16
    have d17 := of_decide_eq_false c17
    have d24 := of_decide_eq_false c24
    rw [show opI .sub .u64 at_ 2097152 = at_ - 2097152 from wrU (by omega) (by omega)] at d24
    rw [show IntKind.u64.wrap (min (max cx 0) 256) = min (max cx 0) 256 from wrU (by omega) (by omega)] at d24
    have d25 := of_decide_eq_false c25
    have d28 := of_decide_eq_false c28
    rw [show opI .sub .u64 at_ 3145728 = at_ - 3145728 from wrU (by omega) (by omega)] at d28
    have d29 := of_decide_eq_true c29
    unfold rgn
    rw [if_neg (by omega), if_neg (by omega), if_neg (by omega), if_neg (fun h4 => by first | omega | exact absurd h4.2.2 (by rw [c0]; decide))]
  refine ⟨fun c30 => ?_, fun c30 => ?_⟩
  · have ha := in_u64 hat_
    have d1 := of_decide_eq_false c1
    have d16 := of_decide_eq_false c16
    rw [show opI .sub .u64 at_ 1048576 = at_ - 1048576 from wrU (by omega) (by omega)] at d16
    rw [show IntKind.u64.wrap (min (max tx 0) 16384) = min (max tx 0) 16384 from wrU (by omega) (by omega)] at d16
    have d17 := of_decide_eq_false c17
    have d24 := of_decide_eq_false c24
    rw [show opI .sub .u64 at_ 2097152 = at_ - 2097152 from wrU (by omega) (by omega)] at d24
    rw [show IntKind.u64.wrap (min (max cx 0) 256) = min (max cx 0) 256 from wrU (by omega) (by omega)] at d24
    have d25 := of_decide_eq_false c25
    have d28 := of_decide_eq_false c28
    rw [show opI .sub .u64 at_ 3145728 = at_ - 3145728 from wrU (by omega) (by omega)] at d28
    have d29 := of_decide_eq_false c29
    have d30 := of_decide_eq_true c30
    rw [show opI .sub .u64 at_ 4194304 = at_ - 4194304 from wrU (by omega) (by omega)] at d30
    unfold rgn
    rw [if_neg (by omega), if_neg (by omega), if_neg (by omega), if_pos ⟨by omega, by omega, c0⟩]
  · have ha := in_u64 hat_
    have d1 := of_decide_eq_false c1
    have d16 := of_decide_eq_false c16
    rw [show opI .sub .u64 at_ 1048576 = at_ - 1048576 from wrU (by omega) (by omega)] at d16
    rw [show IntKind.u64.wrap (min (max tx 0) 16384) = min (max tx 0) 16384 from wrU (by omega) (by omega)] at d16
    have d17 := of_decide_eq_false c17
    have d24 := of_decide_eq_false c24
    rw [show opI .sub .u64 at_ 2097152 = at_ - 2097152 from wrU (by omega) (by omega)] at d24
    rw [show IntKind.u64.wrap (min (max cx 0) 256) = min (max cx 0) 256 from wrU (by omega) (by omega)] at d24
    have d25 := of_decide_eq_false c25
    have d28 := of_decide_eq_false c28
    rw [show opI .sub .u64 at_ 3145728 = at_ - 3145728 from wrU (by omega) (by omega)] at d28
    have d29 := of_decide_eq_false c29
    have d30 := of_decide_eq_false c30
    rw [show opI .sub .u64 at_ 4194304 = at_ - 4194304 from wrU (by omega) (by omega)] at d30
    unfold rgn
    rw [if_neg (by omega), if_neg (by omega), if_neg (by omega), if_neg (fun h4 => by first | omega | exact absurd h4.2.2 (by rw [c0]; decide))]
  refine ⟨fun c31 => ?_, fun c31 => ?_⟩
  refine ⟨fun c32 => ?_, fun c32 => ?_⟩
  refine ⟨fun c33 => ?_, fun c33 => ?_⟩
  refine ⟨fun c34 => ?_, fun c34 => ?_⟩
  · have ha := in_u64 hat_
    have d31 := of_decide_eq_true c31
    have d32 := of_decide_eq_true c32
    have d33 := of_decide_eq_true c33
    have d34 := of_decide_eq_true c34
    unfold rgn
    rw [if_neg (by omega), if_neg (by omega), if_neg (by omega), if_neg (fun h4 => by first | omega | exact absurd h4.2.2 (by rw [c0]; decide))]
  refine ⟨fun c35 => ?_, fun c35 => ?_⟩
  · have ha := in_u64 hat_
    have d31 := of_decide_eq_true c31
    have d32 := of_decide_eq_true c32
    have d33 := of_decide_eq_true c33
    have d34 := of_decide_eq_false c34
    have d35 := of_decide_eq_true c35
    rw [show opI .sub .u64 at_ 4194304 = at_ - 4194304 from wrU (by omega) (by omega)] at d35
    unfold rgn
    exfalso; omega
  · have ha := in_u64 hat_
    have d31 := of_decide_eq_true c31
    have d32 := of_decide_eq_true c32
    have d33 := of_decide_eq_true c33
    have d34 := of_decide_eq_false c34
    have d35 := of_decide_eq_false c35
    rw [show opI .sub .u64 at_ 4194304 = at_ - 4194304 from wrU (by omega) (by omega)] at d35
    unfold rgn
    rw [if_neg (by omega), if_neg (by omega), if_neg (by omega), if_neg (fun h4 => by first | omega | exact absurd h4.2.2 (by rw [c0]; decide))]
  refine ⟨fun c36 => ?_, fun c36 => ?_⟩
  · have ha := in_u64 hat_
    have d31 := of_decide_eq_true c31
    have d32 := of_decide_eq_true c32
    have d33 := of_decide_eq_false c33
    have d36 := of_decide_eq_true c36
    rw [show opI .sub .u64 at_ 3145728 = at_ - 3145728 from wrU (by omega) (by omega)] at d36
    unfold rgn
    rw [if_neg (by omega), if_neg (by omega), if_pos (by omega)]
  refine ⟨fun c37 => ?_, fun c37 => ?_⟩
  · have ha := in_u64 hat_
    have d31 := of_decide_eq_true c31
    have d32 := of_decide_eq_true c32
    have d33 := of_decide_eq_false c33
    have d36 := of_decide_eq_false c36
    rw [show opI .sub .u64 at_ 3145728 = at_ - 3145728 from wrU (by omega) (by omega)] at d36
    have d37 := of_decide_eq_true c37
    unfold rgn
    rw [if_neg (by omega), if_neg (by omega), if_neg (by omega), if_neg (fun h4 => by first | omega | exact absurd h4.2.2 (by rw [c0]; decide))]
  refine ⟨fun c38 => ?_, fun c38 => ?_⟩
  · have ha := in_u64 hat_
    have d31 := of_decide_eq_true c31
    have d32 := of_decide_eq_true c32
    have d33 := of_decide_eq_false c33
    have d36 := of_decide_eq_false c36
    rw [show opI .sub .u64 at_ 3145728 = at_ - 3145728 from wrU (by omega) (by omega)] at d36
    have d37 := of_decide_eq_false c37
    have d38 := of_decide_eq_true c38
    rw [show opI .sub .u64 at_ 4194304 = at_ - 4194304 from wrU (by omega) (by omega)] at d38
    unfold rgn
    exfalso; omega
  · have ha := in_u64 hat_
    have d31 := of_decide_eq_true c31
    have d32 := of_decide_eq_true c32
    have d33 := of_decide_eq_false c33
    have d36 := of_decide_eq_false c36
    rw [show opI .sub .u64 at_ 3145728 = at_ - 3145728 from wrU (by omega) (by omega)] at d36
    have d37 := of_decide_eq_false c37
    have d38 := of_decide_eq_false c38
    rw [show opI .sub .u64 at_ 4194304 = at_ - 4194304 from wrU (by omega) (by omega)] at d38
    unfold rgn
    rw [if_neg (by omega), if_neg (by omega), if_neg (by omega), if_neg (fun h4 => by first | omega | exact absurd h4.2.2 (by rw [c0]; decide))]
  refine ⟨fun c39 => ?_, fun c39 => ?_⟩
  · have ha := in_u64 hat_
    have d31 := of_decide_eq_true c31
    have d32 := of_decide_eq_false c32
    have d39 := of_decide_eq_true c39
    rw [show opI .sub .u64 at_ 2097152 = at_ - 2097152 from wrU (by omega) (by omega)] at d39
    rw [show IntKind.u64.wrap (min (max cx 0) 256) = min (max cx 0) 256 from wrU (by omega) (by omega)] at d39
    unfold rgn
    rw [if_neg (by omega), if_pos (by omega)]
  refine ⟨fun c40 => ?_, fun c40 => ?_⟩
  refine ⟨fun c41 => ?_, fun c41 => ?_⟩
  · have ha := in_u64 hat_
    have d31 := of_decide_eq_true c31
    have d32 := of_decide_eq_false c32
    have d39 := of_decide_eq_false c39
    rw [show opI .sub .u64 at_ 2097152 = at_ - 2097152 from wrU (by omega) (by omega)] at d39
    rw [show IntKind.u64.wrap (min (max cx 0) 256) = min (max cx 0) 256 from wrU (by omega) (by omega)] at d39
    have d40 := of_decide_eq_true c40
    have d41 := of_decide_eq_true c41
    unfold rgn
    rw [if_neg (by omega), if_neg (by omega), if_neg (by omega), if_neg (fun h4 => by first | omega | exact absurd h4.2.2 (by rw [c0]; decide))]
  refine ⟨fun c42 => ?_, fun c42 => ?_⟩
  · have ha := in_u64 hat_
    have d31 := of_decide_eq_true c31
    have d32 := of_decide_eq_false c32
    have d39 := of_decide_eq_false c39
    rw [show opI .sub .u64 at_ 2097152 = at_ - 2097152 from wrU (by omega) (by omega)] at d39
    rw [show IntKind.u64.wrap (min (max cx 0) 256) = min (max cx 0) 256 from wrU (by omega) (by omega)] at d39
    have d40 := of_decide_eq_true c40
    have d41 := of_decide_eq_false c41
    have d42 := of_decide_eq_true c42
    rw [show opI .sub .u64 at_ 4194304 = at_ - 4194304 from wrU (by omega) (by omega)] at d42
    unfold rgn
    exfalso; omega
  · have ha := in_u64 hat_
    have d31 := of_decide_eq_true c31
    have d32 := of_decide_eq_false c32
    have d39 := of_decide_eq_false c39
    rw [show opI .sub .u64 at_ 2097152 = at_ - 2097152 from wrU (by omega) (by omega)] at d39
    rw [show IntKind.u64.wrap (min (max cx 0) 256) = min (max cx 0) 256 from wrU (by omega) (by omega)] at d39
    have d40 := of_decide_eq_true c40
    have d41 := of_decide_eq_false c41
    have d42 := of_decide_eq_false c42
    rw [show opI .sub .u64 at_ 4194304 = at_ - 4194304 from wrU (by omega) (by omega)] at d42
    unfold rgn
    rw [if_neg (by omega), if_neg (by omega), if_neg (by omega), if_neg (fun h4 => by first | omega | exact absurd h4.2.2 (by rw [c0]; decide))]
  refine ⟨fun c43 => ?_, fun c43 => ?_⟩
  · have ha := in_u64 hat_
    have d31 := of_decide_eq_true c31
    have d32 := of_decide_eq_false c32
    have d39 := of_decide_eq_false c39
    rw [show opI .sub .u64 at_ 2097152 = at_ - 2097152 from wrU (by omega) (by omega)] at d39
    rw [show IntKind.u64.wrap (min (max cx 0) 256) = min (max cx 0) 256 from wrU (by omega) (by omega)] at d39
    have d40 := of_decide_eq_false c40
    have d43 := of_decide_eq_true c43
    rw [show opI .sub .u64 at_ 3145728 = at_ - 3145728 from wrU (by omega) (by omega)] at d43
    unfold rgn
    rw [if_neg (by omega), if_neg (by omega), if_pos (by omega)]
  refine ⟨fun c44 => ?_, fun c44 => ?_⟩
  · have ha := in_u64 hat_
    have d31 := of_decide_eq_true c31
    have d32 := of_decide_eq_false c32
    have d39 := of_decide_eq_false c39
    rw [show opI .sub .u64 at_ 2097152 = at_ - 2097152 from wrU (by omega) (by omega)] at d39
    rw [show IntKind.u64.wrap (min (max cx 0) 256) = min (max cx 0) 256 from wrU (by omega) (by omega)] at d39
    have d40 := of_decide_eq_false c40
    have d43 := of_decide_eq_false c43
    rw [show opI .sub .u64 at_ 3145728 = at_ - 3145728 from wrU (by omega) (by omega)] at d43
    have d44 := of_decide_eq_true c44
    unfold rgn
    rw [if_neg (by omega), if_neg (by omega), if_neg (by omega), if_neg (fun h4 => by first | omega | exact absurd h4.2.2 (by rw [c0]; decide))]
  refine ⟨fun c45 => ?_, fun c45 => ?_⟩
  · have ha := in_u64 hat_
    have d31 := of_decide_eq_true c31
    have d32 := of_decide_eq_false c32
    have d39 := of_decide_eq_false c39
    rw [show opI .sub .u64 at_ 2097152 = at_ - 2097152 from wrU (by omega) (by omega)] at d39
    rw [show IntKind.u64.wrap (min (max cx 0) 256) = min (max cx 0) 256 from wrU (by omega) (by omega)] at d39
    have d40 := of_decide_eq_false c40
    have d43 := of_decide_eq_false c43
    rw [show opI .sub .u64 at_ 3145728 = at_ - 3145728 from wrU (by omega) (by omega)] at d43
    have d44 := of_decide_eq_false c44
    have d45 := of_decide_eq_true c45
    rw [show opI .sub .u64 at_ 4194304 = at_ - 4194304 from wrU (by omega) (by omega)] at d45
    unfold rgn
    exfalso; omega
  · have ha := in_u64 hat_
    have d31 := of_decide_eq_true c31
    have d32 := of_decide_eq_false c32
    have d39 := of_decide_eq_false c39
    rw [show opI .sub .u64 at_ 2097152 = at_ - 2097152 from wrU (by omega) (by omega)] at d39
    rw [show IntKind.u64.wrap (min (max cx 0) 256) = min (max cx 0) 256 from wrU (by omega) (by omega)] at d39
    have d40 := of_decide_eq_false c40
    have d43 := of_decide_eq_false c43
    rw [show opI .sub .u64 at_ 3145728 = at_ - 3145728 from wrU (by omega) (by omega)] at d43
    have d44 := of_decide_eq_false c44
    have d45 := of_decide_eq_false c45
    rw [show opI .sub .u64 at_ 4194304 = at_ - 4194304 from wrU (by omega) (by omega)] at d45
    unfold rgn
    rw [if_neg (by omega), if_neg (by omega), if_neg (by omega), if_neg (fun h4 => by first | omega | exact absurd h4.2.2 (by rw [c0]; decide))]
  refine ⟨fun c46 => ?_, fun c46 => ?_⟩
  · have ha := in_u64 hat_
    have d31 := of_decide_eq_false c31
    have d46 := of_decide_eq_true c46
    rw [show opI .sub .u64 at_ 1048576 = at_ - 1048576 from wrU (by omega) (by omega)] at d46
    rw [show IntKind.u64.wrap (min (max tx 0) 16384) = min (max tx 0) 16384 from wrU (by omega) (by omega)] at d46
    unfold rgn
    rw [if_pos (by omega)]
  refine ⟨fun c47 => ?_, fun c47 => ?_⟩
  refine ⟨fun c48 => ?_, fun c48 => ?_⟩
  refine ⟨fun c49 => ?_, fun c49 => ?_⟩
  · have ha := in_u64 hat_
    have d31 := of_decide_eq_false c31
    have d46 := of_decide_eq_false c46
    rw [show opI .sub .u64 at_ 1048576 = at_ - 1048576 from wrU (by omega) (by omega)] at d46
    rw [show IntKind.u64.wrap (min (max tx 0) 16384) = min (max tx 0) 16384 from wrU (by omega) (by omega)] at d46
    have d47 := of_decide_eq_true c47
    have d48 := of_decide_eq_true c48
    have d49 := of_decide_eq_true c49
    unfold rgn
    rw [if_neg (by omega), if_neg (by omega), if_neg (by omega), if_neg (fun h4 => by first | omega | exact absurd h4.2.2 (by rw [c0]; decide))]
  refine ⟨fun c50 => ?_, fun c50 => ?_⟩
  · have ha := in_u64 hat_
    have d31 := of_decide_eq_false c31
    have d46 := of_decide_eq_false c46
    rw [show opI .sub .u64 at_ 1048576 = at_ - 1048576 from wrU (by omega) (by omega)] at d46
    rw [show IntKind.u64.wrap (min (max tx 0) 16384) = min (max tx 0) 16384 from wrU (by omega) (by omega)] at d46
    have d47 := of_decide_eq_true c47
    have d48 := of_decide_eq_true c48
    have d49 := of_decide_eq_false c49
    have d50 := of_decide_eq_true c50
    rw [show opI .sub .u64 at_ 4194304 = at_ - 4194304 from wrU (by omega) (by omega)] at d50
    unfold rgn
    exfalso; omega
  · have ha := in_u64 hat_
    have d31 := of_decide_eq_false c31
    have d46 := of_decide_eq_false c46
    rw [show opI .sub .u64 at_ 1048576 = at_ - 1048576 from wrU (by omega) (by omega)] at d46
    rw [show IntKind.u64.wrap (min (max tx 0) 16384) = min (max tx 0) 16384 from wrU (by omega) (by omega)] at d46
    have d47 := of_decide_eq_true c47
    have d48 := of_decide_eq_true c48
    have d49 := of_decide_eq_false c49
    have d50 := of_decide_eq_false c50
    rw [show opI .sub .u64 at_ 4194304 = at_ - 4194304 from wrU (by omega) (by omega)] at d50
    unfold rgn
    rw [if_neg (by omega), if_neg (by omega), if_neg (by omega), if_neg (fun h4 => by first | omega | exact absurd h4.2.2 (by rw [c0]; decide))]
  refine ⟨fun c51 => ?_, fun c51 => ?_⟩
  · have ha := in_u64 hat_
    have d31 := of_decide_eq_false c31
    have d46 := of_decide_eq_false c46
    rw [show opI .sub .u64 at_ 1048576 = at_ - 1048576 from wrU (by omega) (by omega)] at d46
    rw [show IntKind.u64.wrap (min (max tx 0) 16384) = min (max tx 0) 16384 from wrU (by omega) (by omega)] at d46
    have d47 := of_decide_eq_true c47
    have d48 := of_decide_eq_false c48
    have d51 := of_decide_eq_true c51
    rw [show opI .sub .u64 at_ 3145728 = at_ - 3145728 from wrU (by omega) (by omega)] at d51
    unfold rgn
    rw [if_neg (by omega), if_neg (by omega), if_pos (by omega)]
  refine ⟨fun c52 => ?_, fun c52 => ?_⟩
  · have ha := in_u64 hat_
    have d31 := of_decide_eq_false c31
    have d46 := of_decide_eq_false c46
    rw [show opI .sub .u64 at_ 1048576 = at_ - 1048576 from wrU (by omega) (by omega)] at d46
    rw [show IntKind.u64.wrap (min (max tx 0) 16384) = min (max tx 0) 16384 from wrU (by omega) (by omega)] at d46
    have d47 := of_decide_eq_true c47
    have d48 := of_decide_eq_false c48
    have d51 := of_decide_eq_false c51
    rw [show opI .sub .u64 at_ 3145728 = at_ - 3145728 from wrU (by omega) (by omega)] at d51
    have d52 := of_decide_eq_true c52
    unfold rgn
    rw [if_neg (by omega), if_neg (by omega), if_neg (by omega), if_neg (fun h4 => by first | omega | exact absurd h4.2.2 (by rw [c0]; decide))]
  refine ⟨fun c53 => ?_, fun c53 => ?_⟩
  · have ha := in_u64 hat_
    have d31 := of_decide_eq_false c31
    have d46 := of_decide_eq_false c46
    rw [show opI .sub .u64 at_ 1048576 = at_ - 1048576 from wrU (by omega) (by omega)] at d46
    rw [show IntKind.u64.wrap (min (max tx 0) 16384) = min (max tx 0) 16384 from wrU (by omega) (by omega)] at d46
    have d47 := of_decide_eq_true c47
    have d48 := of_decide_eq_false c48
    have d51 := of_decide_eq_false c51
    rw [show opI .sub .u64 at_ 3145728 = at_ - 3145728 from wrU (by omega) (by omega)] at d51
    have d52 := of_decide_eq_false c52
    have d53 := of_decide_eq_true c53
    rw [show opI .sub .u64 at_ 4194304 = at_ - 4194304 from wrU (by omega) (by omega)] at d53
    unfold rgn
    exfalso; omega
  · have ha := in_u64 hat_
    have d31 := of_decide_eq_false c31
    have d46 := of_decide_eq_false c46
    rw [show opI .sub .u64 at_ 1048576 = at_ - 1048576 from wrU (by omega) (by omega)] at d46
    rw [show IntKind.u64.wrap (min (max tx 0) 16384) = min (max tx 0) 16384 from wrU (by omega) (by omega)] at d46
    have d47 := of_decide_eq_true c47
    have d48 := of_decide_eq_false c48
    have d51 := of_decide_eq_false c51
    rw [show opI .sub .u64 at_ 3145728 = at_ - 3145728 from wrU (by omega) (by omega)] at d51
    have d52 := of_decide_eq_false c52
    have d53 := of_decide_eq_false c53
    rw [show opI .sub .u64 at_ 4194304 = at_ - 4194304 from wrU (by omega) (by omega)] at d53
    unfold rgn
    rw [if_neg (by omega), if_neg (by omega), if_neg (by omega), if_neg (fun h4 => by first | omega | exact absurd h4.2.2 (by rw [c0]; decide))]
  refine ⟨fun c54 => ?_, fun c54 => ?_⟩
  · have ha := in_u64 hat_
    have d31 := of_decide_eq_false c31
    have d46 := of_decide_eq_false c46
    rw [show opI .sub .u64 at_ 1048576 = at_ - 1048576 from wrU (by omega) (by omega)] at d46
    rw [show IntKind.u64.wrap (min (max tx 0) 16384) = min (max tx 0) 16384 from wrU (by omega) (by omega)] at d46
    have d47 := of_decide_eq_false c47
    have d54 := of_decide_eq_true c54
    rw [show opI .sub .u64 at_ 2097152 = at_ - 2097152 from wrU (by omega) (by omega)] at d54
    rw [show IntKind.u64.wrap (min (max cx 0) 256) = min (max cx 0) 256 from wrU (by omega) (by omega)] at d54
    unfold rgn
    rw [if_neg (by omega), if_pos (by omega)]
  refine ⟨fun c55 => ?_, fun c55 => ?_⟩
  refine ⟨fun c56 => ?_, fun c56 => ?_⟩
  · have ha := in_u64 hat_
    have d31 := of_decide_eq_false c31
    have d46 := of_decide_eq_false c46
    rw [show opI .sub .u64 at_ 1048576 = at_ - 1048576 from wrU (by omega) (by omega)] at d46
    rw [show IntKind.u64.wrap (min (max tx 0) 16384) = min (max tx 0) 16384 from wrU (by omega) (by omega)] at d46
    have d47 := of_decide_eq_false c47
    have d54 := of_decide_eq_false c54
    rw [show opI .sub .u64 at_ 2097152 = at_ - 2097152 from wrU (by omega) (by omega)] at d54
    rw [show IntKind.u64.wrap (min (max cx 0) 256) = min (max cx 0) 256 from wrU (by omega) (by omega)] at d54
    have d55 := of_decide_eq_true c55
    have d56 := of_decide_eq_true c56
    unfold rgn
    rw [if_neg (by omega), if_neg (by omega), if_neg (by omega), if_neg (fun h4 => by first | omega | exact absurd h4.2.2 (by rw [c0]; decide))]
  refine ⟨fun c57 => ?_, fun c57 => ?_⟩
  · have ha := in_u64 hat_
    have d31 := of_decide_eq_false c31
    have d46 := of_decide_eq_false c46
    rw [show opI .sub .u64 at_ 1048576 = at_ - 1048576 from wrU (by omega) (by omega)] at d46
    rw [show IntKind.u64.wrap (min (max tx 0) 16384) = min (max tx 0) 16384 from wrU (by omega) (by omega)] at d46
    have d47 := of_decide_eq_false c47
    have d54 := of_decide_eq_false c54
    rw [show opI .sub .u64 at_ 2097152 = at_ - 2097152 from wrU (by omega) (by omega)] at d54
    rw [show IntKind.u64.wrap (min (max cx 0) 256) = min (max cx 0) 256 from wrU (by omega) (by omega)] at d54
    have d55 := of_decide_eq_true c55
    have d56 := of_decide_eq_false c56
    have d57 := of_decide_eq_true c57
    rw [show opI .sub .u64 at_ 4194304 = at_ - 4194304 from wrU (by omega) (by omega)] at d57
    unfold rgn
    exfalso; omega
  · have ha := in_u64 hat_
    have d31 := of_decide_eq_false c31
    have d46 := of_decide_eq_false c46
    rw [show opI .sub .u64 at_ 1048576 = at_ - 1048576 from wrU (by omega) (by omega)] at d46
    rw [show IntKind.u64.wrap (min (max tx 0) 16384) = min (max tx 0) 16384 from wrU (by omega) (by omega)] at d46
    have d47 := of_decide_eq_false c47
    have d54 := of_decide_eq_false c54
    rw [show opI .sub .u64 at_ 2097152 = at_ - 2097152 from wrU (by omega) (by omega)] at d54
    rw [show IntKind.u64.wrap (min (max cx 0) 256) = min (max cx 0) 256 from wrU (by omega) (by omega)] at d54
    have d55 := of_decide_eq_true c55
    have d56 := of_decide_eq_false c56
    have d57 := of_decide_eq_false c57
    rw [show opI .sub .u64 at_ 4194304 = at_ - 4194304 from wrU (by omega) (by omega)] at d57
    unfold rgn
    rw [if_neg (by omega), if_neg (by omega), if_neg (by omega), if_neg (fun h4 => by first | omega | exact absurd h4.2.2 (by rw [c0]; decide))]
  refine ⟨fun c58 => ?_, fun c58 => ?_⟩
  · have ha := in_u64 hat_
    have d31 := of_decide_eq_false c31
    have d46 := of_decide_eq_false c46
    rw [show opI .sub .u64 at_ 1048576 = at_ - 1048576 from wrU (by omega) (by omega)] at d46
    rw [show IntKind.u64.wrap (min (max tx 0) 16384) = min (max tx 0) 16384 from wrU (by omega) (by omega)] at d46
    have d47 := of_decide_eq_false c47
    have d54 := of_decide_eq_false c54
    rw [show opI .sub .u64 at_ 2097152 = at_ - 2097152 from wrU (by omega) (by omega)] at d54
    rw [show IntKind.u64.wrap (min (max cx 0) 256) = min (max cx 0) 256 from wrU (by omega) (by omega)] at d54
    have d55 := of_decide_eq_false c55
    have d58 := of_decide_eq_true c58
    rw [show opI .sub .u64 at_ 3145728 = at_ - 3145728 from wrU (by omega) (by omega)] at d58
    unfold rgn
    rw [if_neg (by omega), if_neg (by omega), if_pos (by omega)]
  refine ⟨fun c59 => ?_, fun c59 => ?_⟩
  · have ha := in_u64 hat_
    have d31 := of_decide_eq_false c31
    have d46 := of_decide_eq_false c46
    rw [show opI .sub .u64 at_ 1048576 = at_ - 1048576 from wrU (by omega) (by omega)] at d46
    rw [show IntKind.u64.wrap (min (max tx 0) 16384) = min (max tx 0) 16384 from wrU (by omega) (by omega)] at d46
    have d47 := of_decide_eq_false c47
    have d54 := of_decide_eq_false c54
    rw [show opI .sub .u64 at_ 2097152 = at_ - 2097152 from wrU (by omega) (by omega)] at d54
    rw [show IntKind.u64.wrap (min (max cx 0) 256) = min (max cx 0) 256 from wrU (by omega) (by omega)] at d54
    have d55 := of_decide_eq_false c55
    have d58 := of_decide_eq_false c58
    rw [show opI .sub .u64 at_ 3145728 = at_ - 3145728 from wrU (by omega) (by omega)] at d58
    have d59 := of_decide_eq_true c59
    unfold rgn
    rw [if_neg (by omega), if_neg (by omega), if_neg (by omega), if_neg (fun h4 => by first | omega | exact absurd h4.2.2 (by rw [c0]; decide))]
  refine ⟨fun c60 => ?_, fun c60 => ?_⟩
  · have ha := in_u64 hat_
    have d31 := of_decide_eq_false c31
    have d46 := of_decide_eq_false c46
    rw [show opI .sub .u64 at_ 1048576 = at_ - 1048576 from wrU (by omega) (by omega)] at d46
    rw [show IntKind.u64.wrap (min (max tx 0) 16384) = min (max tx 0) 16384 from wrU (by omega) (by omega)] at d46
    have d47 := of_decide_eq_false c47
    have d54 := of_decide_eq_false c54
    rw [show opI .sub .u64 at_ 2097152 = at_ - 2097152 from wrU (by omega) (by omega)] at d54
    rw [show IntKind.u64.wrap (min (max cx 0) 256) = min (max cx 0) 256 from wrU (by omega) (by omega)] at d54
    have d55 := of_decide_eq_false c55
    have d58 := of_decide_eq_false c58
    rw [show opI .sub .u64 at_ 3145728 = at_ - 3145728 from wrU (by omega) (by omega)] at d58
    have d59 := of_decide_eq_false c59
    have d60 := of_decide_eq_true c60
    rw [show opI .sub .u64 at_ 4194304 = at_ - 4194304 from wrU (by omega) (by omega)] at d60
    unfold rgn
    exfalso; omega
  · have ha := in_u64 hat_
    have d31 := of_decide_eq_false c31
    have d46 := of_decide_eq_false c46
    rw [show opI .sub .u64 at_ 1048576 = at_ - 1048576 from wrU (by omega) (by omega)] at d46
    rw [show IntKind.u64.wrap (min (max tx 0) 16384) = min (max tx 0) 16384 from wrU (by omega) (by omega)] at d46
    have d47 := of_decide_eq_false c47
    have d54 := of_decide_eq_false c54
    rw [show opI .sub .u64 at_ 2097152 = at_ - 2097152 from wrU (by omega) (by omega)] at d54
    rw [show IntKind.u64.wrap (min (max cx 0) 256) = min (max cx 0) 256 from wrU (by omega) (by omega)] at d54
    have d55 := of_decide_eq_false c55
    have d58 := of_decide_eq_false c58
    rw [show opI .sub .u64 at_ 3145728 = at_ - 3145728 from wrU (by omega) (by omega)] at d58
    have d59 := of_decide_eq_false c59
    have d60 := of_decide_eq_false c60
    rw [show opI .sub .u64 at_ 4194304 = at_ - 4194304 from wrU (by omega) (by omega)] at d60
    unfold rgn
    rw [if_neg (by omega), if_neg (by omega), if_neg (by omega), if_neg (fun h4 => by first | omega | exact absurd h4.2.2 (by rw [c0]; decide))]
theorem sK_mregn {sp : Spec} {key : Nat} (hF : sp.F key = sF_mregn) (hP : sp.pre key = fun _ => True := by rfl) : SmOk Try.prog sp (sM_mregn key) :=
  fun_ok (s := sM_mregn key) hF hP (by kernel_rfl) tysok_MmG (sm0) Try.func17 fn0 sR_mregn (.inl rfl) (fun x0 gx0 x1 gx1 x2 gx2 x3 hp ρ g => sX_mregn x0 gx0 x1 gx1 x2 gx2 x3 ρ g)
def sM_jregn (key : Nat) : Sm := ⟨23, key, [.one (.int .u64), .one (.int .i64), .one (.int .i64), .one .bool], [.one (.int .i8)], false⟩
def sV_jregn (at_ : Int) (cx : Int) (tx : Int) (ws : Bool) : List Dt := [.z (rgn at_ cx tx ws)]
def sF_jregn : List Dt → List Dt
  | [.z x0, .z x1, .z x2, .z x3] => sV_jregn x0 x1 x2 (x3 == 1)
  | _ => []
def sT_jregn : Tr :=
(.br (.lt (.var 0) (.lit 1048576))
(.br (.lt (.var 0) (.lit 2097152))
(.br (.lt (.var 0) (.lit 3145728))
(.br (.lt (.var 0) (.lit 4194304))
(.leaf (.cons (.lit 0) .nil))
(.br (.lt (.var 0) (.lit 4194568))
(.br (.bvar 3)
(.leaf (.cons (.lit 4) .nil))
(.leaf (.cons (.lit 0) .nil)))
(.leaf (.cons (.lit 0) .nil))))
(.br (.lt (.var 0) (.lit 3145792))
(.leaf (.cons (.lit 3) .nil))
(.br (.lt (.var 0) (.lit 4194304))
(.leaf (.cons (.lit 0) .nil))
(.br (.lt (.var 0) (.lit 4194568))
(.br (.bvar 3)
(.leaf (.cons (.lit 4) .nil))
(.leaf (.cons (.lit 0) .nil)))
(.leaf (.cons (.lit 0) .nil))))))
(.br (.lt (.var 0) (.conv .u64 (.bin .add .i64 (.lit 2097152) (.mn (.mx (.var 1) (.lit 0)) (.lit 256)))))
(.leaf (.cons (.lit 2) .nil))
(.br (.lt (.var 0) (.lit 3145728))
(.br (.lt (.var 0) (.lit 4194304))
(.leaf (.cons (.lit 0) .nil))
(.br (.lt (.var 0) (.lit 4194568))
(.br (.bvar 3)
(.leaf (.cons (.lit 4) .nil))
(.leaf (.cons (.lit 0) .nil)))
(.leaf (.cons (.lit 0) .nil))))
(.br (.lt (.var 0) (.lit 3145792))
(.leaf (.cons (.lit 3) .nil))
(.br (.lt (.var 0) (.lit 4194304))
(.leaf (.cons (.lit 0) .nil))
(.br (.lt (.var 0) (.lit 4194568))
(.br (.bvar 3)
(.leaf (.cons (.lit 4) .nil))
(.leaf (.cons (.lit 0) .nil)))
(.leaf (.cons (.lit 0) .nil))))))))
(.br (.lt (.var 0) (.conv .u64 (.bin .add .i64 (.lit 1048576) (.mn (.mx (.var 2) (.lit 0)) (.lit 16384)))))
(.leaf (.cons (.lit 1) .nil))
(.br (.lt (.var 0) (.lit 2097152))
(.br (.lt (.var 0) (.lit 3145728))
(.br (.lt (.var 0) (.lit 4194304))
(.leaf (.cons (.lit 0) .nil))
(.br (.lt (.var 0) (.lit 4194568))
(.br (.bvar 3)
(.leaf (.cons (.lit 4) .nil))
(.leaf (.cons (.lit 0) .nil)))
(.leaf (.cons (.lit 0) .nil))))
(.br (.lt (.var 0) (.lit 3145792))
(.leaf (.cons (.lit 3) .nil))
(.br (.lt (.var 0) (.lit 4194304))
(.leaf (.cons (.lit 0) .nil))
(.br (.lt (.var 0) (.lit 4194568))
(.br (.bvar 3)
(.leaf (.cons (.lit 4) .nil))
(.leaf (.cons (.lit 0) .nil)))
(.leaf (.cons (.lit 0) .nil))))))
(.br (.lt (.var 0) (.conv .u64 (.bin .add .i64 (.lit 2097152) (.mn (.mx (.var 1) (.lit 0)) (.lit 256)))))
(.leaf (.cons (.lit 2) .nil))
(.br (.lt (.var 0) (.lit 3145728))
(.br (.lt (.var 0) (.lit 4194304))
(.leaf (.cons (.lit 0) .nil))
(.br (.lt (.var 0) (.lit 4194568))
(.br (.bvar 3)
(.leaf (.cons (.lit 4) .nil))
(.leaf (.cons (.lit 0) .nil)))
(.leaf (.cons (.lit 0) .nil))))
(.br (.lt (.var 0) (.lit 3145792))
(.leaf (.cons (.lit 3) .nil))
(.br (.lt (.var 0) (.lit 4194304))
(.leaf (.cons (.lit 0) .nil))
(.br (.lt (.var 0) (.lit 4194568))
(.br (.bvar 3)
(.leaf (.cons (.lit 4) .nil))
(.leaf (.cons (.lit 0) .nil)))
(.leaf (.cons (.lit 0) .nil))))))))))
def sP_jregn : Spec := ⟨fun k => match k with | _ => fun _ => [], fun k => match k with | _ => fun _ => True⟩
set_option maxRecDepth 100000 in
theorem sR_jregn : treeIs tys_MmG [] [] [] [] 200 Try.f23 [.one (.int .u64), .one (.int .i64), .one (.int .i64), .one .bool] [.one (.int .i8)] false [.int .u64, .int .i64, .int .i64, .bool] sT_jregn := ⟨by kernel_rfl, by kernel_rfl, by kernel_rfl⟩
set_option maxRecDepth 100000 in
set_option maxHeartbeats 8000000 in
theorem sX_jregn (at_ : Int) (hat_ : inK .u64 at_ = true) (cx : Int) (hcx : inK .i64 cx = true) (tx : Int) (htx : inK .i64 tx = true) (ws : Bool) (ρ : Env) (g : varsD ρ 0 [.int .u64, .int .i64, .int .i64, .bool] = [.z at_, .z cx, .z tx, .z (b2i ws)]) : sT_jregn.asks sP_jregn (fun ρ e => e.D ρ = sF_jregn [.z at_, .z cx, .z tx, .z (b2i ws)]) ρ fun _ _ => False := by
  simp only [varsD, varD, List.cons.injEq, Dt.z.injEq, Dt.l.injEq, b2i_eq_iff, Nat.reduceAdd, and_true] at g
  simp only [sT_jregn, sP_jregn, sF_jregn, sV_jregn, Tr.asks, upd_same, okDs, okD, eqs, E.I, E.B, E.L, E.R, E.D, E.vs, dI, dB, dL, varD, varsD, List.getElem?_cons_zero, List.getElem?_cons_succ, List.cons_append, List.nil_append, Nat.zero_add, Nat.add_zero, Nat.reduceAdd, and_true, true_and, b2i_one, -eq_self, Mem.eta, g]
  obtain ⟨k0_i0, k0_i1, k0_i2, k0_b3⟩ := g
  refine ⟨fun c0 => ?_, fun c0 => ?_⟩
  refine ⟨fun c1 => ?_, fun c1 => ?_⟩
  refine ⟨fun c2 => ?_, fun c2 => ?_⟩
  refine ⟨fun c3 => ?_, fun c3 => ?_⟩
  · have ha := in_u64 hat_
    have d0 := of_decide_eq_true c0
    have d1 := of_decide_eq_true c1
    have d2 := of_decide_eq_true c2
    have d3 := of_decide_eq_true c3
    unfold rgn
    rw [if_neg (by omega), if_neg (by omega), if_neg (by omega), if_neg (fun h4 => by first | omega)]
  refine ⟨fun c4 => ?_, fun c4 => ?_⟩
  refine ⟨fun c5 => ?_, fun c5 => ?_⟩
  · have ha := in_u64 hat_
    have d0 := of_decide_eq_true c0
    have d1 := of_decide_eq_true c1
    have d2 := of_decide_eq_true c2
    have d3 := of_decide_eq_false c3
    have d4 := of_decide_eq_true c4
    unfold rgn
    rw [if_neg (by omega), if_neg (by omega), if_neg (by omega), if_pos ⟨by omega, by omega, c5⟩]
  · have ha := in_u64 hat_
    have d0 := of_decide_eq_true c0
    have d1 := of_decide_eq_true c1
    have d2 := of_decide_eq_true c2
    have d3 := of_decide_eq_false c3
    have d4 := of_decide_eq_true c4
    unfold rgn
    rw [if_neg (by omega), if_neg (by omega), if_neg (by omega), if_neg (fun h4 => by first | omega | exact absurd h4.2.2 (by rw [c5]; decide))]
  · have ha := in_u64 hat_
    have d0 := of_decide_eq_true c0
    have d1 := of_decide_eq_true c1
    have d2 := of_decide_eq_true c2
    have d3 := of_decide_eq_false c3
    have d4 := of_decide_eq_false c4
    unfold rgn
    rw [if_neg (by omega), if_neg (by omega), if_neg (by omega), if_neg (fun h4 => by first | omega)]
  refine ⟨fun c6 => ?_, fun c6 => ?_⟩
  · have ha := in_u64 hat_
    have d0 := of_decide_eq_true c0
    have d1 := of_decide_eq_true c1
    have d2 := of_decide_eq_false c2
    have d6 := of_decide_eq_true c6
    unfold rgn
    rw [if_neg (by omega), if_neg (by omega), if_pos (by omega)]
  refine ⟨fun c7 => ?_, fun c7 => ?_⟩
  · have ha := in_u64 hat_
    have d0 := of_decide_eq_true c0
    have d1 := of_decide_eq_true c1
    have d2 := of_decide_eq_false c2
    have d6 := of_decide_eq_false c6
    have d7 := of_decide_eq_true c7
    unfold rgn
    rw [if_neg (by omega), if_neg (by omega), if_neg (by omega), if_neg (fun h4 => by first | omega)]
  refine ⟨fun c8 => ?_, fun c8 => ?_⟩
  refine ⟨fun c9 => ?_, fun c9 => ?_⟩
  · have ha := in_u64 hat_
    have d0 := of_decide_eq_true c0
    have d1 := of_decide_eq_true c1
    have d2 := of_decide_eq_false c2
    have d6 := of_decide_eq_false c6
    have d7 := of_decide_eq_false c7
    have d8 := of_decide_eq_true c8
    unfold rgn
    rw [if_neg (by omega), if_neg (by omega), if_neg (by omega), if_pos ⟨by omega, by omega, c9⟩]
  · have ha := in_u64 hat_
    have d0 := of_decide_eq_true c0
    have d1 := of_decide_eq_true c1
    have d2 := of_decide_eq_false c2
    have d6 := of_decide_eq_false c6
    have d7 := of_decide_eq_false c7
    have d8 := of_decide_eq_true c8
    unfold rgn
    rw [if_neg (by omega), if_neg (by omega), if_neg (by omega), if_neg (fun h4 => by first | omega | exact absurd h4.2.2 (by rw [c9]; decide))]
  · have ha := in_u64 hat_
    have d0 := of_decide_eq_true c0
    have d1 := of_decide_eq_true c1
    have d2 := of_decide_eq_false c2
    have d6 := of_decide_eq_false c6
    have d7 := of_decide_eq_false c7
    have d8 := of_decide_eq_false c8
    unfold rgn
    rw [if_neg (by omega), if_neg (by omega), if_neg (by omega), if_neg (fun h4 => by first | omega)]
  refine ⟨fun c10 => ?_, fun c10 => ?_⟩
  · have ha := in_u64 hat_
    have d0 := of_decide_eq_true c0
    have d1 := of_decide_eq_false c1
    have d10 := of_decide_eq_true c10
    rw [show IntKind.u64.wrap (opI .add .i64 2097152 (min (max cx 0) 256)) = 2097152 + min (max cx 0) 256 from (congrArg IntKind.u64.wrap (wrI (by omega) (by omega))).trans (wrU (by omega) (by omega))] at d10
    unfold rgn
    rw [if_neg (by omega), if_pos (by omega)]
  refine ⟨fun c11 => ?_, fun c11 => ?_⟩
  refine ⟨fun c12 => ?_, fun c12 => ?_⟩
  · have ha := in_u64 hat_
    have d0 := of_decide_eq_true c0
    have d1 := of_decide_eq_false c1
    have d10 := of_decide_eq_false c10
    rw [show IntKind.u64.wrap (opI .add .i64 2097152 (min (max cx 0) 256)) = 2097152 + min (max cx 0) 256 from (congrArg IntKind.u64.wrap (wrI (by omega) (by omega))).trans (wrU (by omega) (by omega))] at d10
    have d11 := of_decide_eq_true c11
    have d12 := of_decide_eq_true c12
    unfold rgn
    rw [if_neg (by omega), if_neg (by omega), if_neg (by omega), if_neg (fun h4 => by first | omega)]
  refine ⟨fun c13 => ?_, fun c13 => ?_⟩
  refine ⟨fun c14 => ?_, fun c14 => ?_⟩
  · have ha := in_u64 hat_
    have d0 := of_decide_eq_true c0
    have d1 := of_decide_eq_false c1
    have d10 := of_decide_eq_false c10
    rw [show IntKind.u64.wrap (opI .add .i64 2097152 (min (max cx 0) 256)) = 2097152 + min (max cx 0) 256 from (congrArg IntKind.u64.wrap (wrI (by omega) (by omega))).trans (wrU (by omega) (by omega))] at d10
    have d11 := of_decide_eq_true c11
    have d12 := of_decide_eq_false c12
    have d13 := of_decide_eq_true c13
    unfold rgn
    rw [if_neg (by omega), if_neg (by omega), if_neg (by omega), if_pos ⟨by omega, by omega, c14⟩]
  · have ha := in_u64 hat_
    have d0 := of_decide_eq_true c0
    have d1 := of_decide_eq_false c1
    have d10 := of_decide_eq_false c10
    rw [show IntKind.u64.wrap (opI .add .i64 2097152 (min (max cx 0) 256)) = 2097152 + min (max cx 0) 256 from (congrArg IntKind.u64.wrap (wrI (by omega) (by omega))).trans (wrU (by omega) (by omega))] at d10
    have d11 := of_decide_eq_true c11
    have d12 := of_decide_eq_false c12
    have d13 := of_decide_eq_true c13
    unfold rgn
    rw [if_neg (by omega), if_neg (by omega), if_neg (by omega), if_neg (fun h4 => by first | omega | exact absurd h4.2.2 (by rw [c14]; decide))]
  · have ha := in_u64 hat_
    have d0 := of_decide_eq_true c0
    have d1 := of_decide_eq_false c1
    have d10 := of_decide_eq_false c10
    rw [show IntKind.u64.wrap (opI .add .i64 2097152 (min (max cx 0) 256)) = 2097152 + min (max cx 0) 256 from (congrArg IntKind.u64.wrap (wrI (by omega) (by omega))).trans (wrU (by omega) (by omega))] at d10
    have d11 := of_decide_eq_true c11
    have d12 := of_decide_eq_false c12
    have d13 := of_decide_eq_false c13
    unfold rgn
    rw [if_neg (by omega), if_neg (by omega), if_neg (by omega), if_neg (fun h4 => by first | omega)]
  refine ⟨fun c15 => ?_, fun c15 => ?_⟩
  · have ha := in_u64 hat_
    have d0 := of_decide_eq_true c0
    have d1 := of_decide_eq_false c1
    have d10 := of_decide_eq_false c10
    rw [show IntKind.u64.wrap (opI .add .i64 2097152 (min (max cx 0) 256)) = 2097152 + min (max cx 0) 256 from (congrArg IntKind.u64.wrap (wrI (by omega) (by omega))).trans (wrU (by omega) (by omega))] at d10
    have d11 := of_decide_eq_false c11
    have d15 := of_decide_eq_true c15
    unfold rgn
    rw [if_neg (by omega), if_neg (by omega), if_pos (by omega)]
  refine ⟨fun c16 => ?_, fun c16 => ?_⟩
  · have ha := in_u64 hat_
    have d0 := of_decide_eq_true c0
    have d1 := of_decide_eq_false c1
    have d10 := of_decide_eq_false c10
    rw [show IntKind.u64.wrap (opI .add .i64 2097152 (min (max cx 0) 256)) = 2097152 + min (max cx 0) 256 from (congrArg IntKind.u64.wrap (wrI (by omega) (by omega))).trans (wrU (by omega) (by omega))] at d10
    have d11 := of_decide_eq_false c11
    have d15 := of_decide_eq_false c15
    have d16 := of_decide_eq_true c16
    unfold rgn
    rw [if_neg (by omega), if_neg (by omega), if_neg (by omega), if_neg (fun h4 => by first | omega)]
  refine ⟨fun c17 => ?_, fun c17 => ?_⟩
  refine ⟨fun c18 => ?_, fun c18 => ?_⟩
  · have ha := in_u64 hat_
    have d0 := of_decide_eq_true c0
    have d1 := of_decide_eq_false c1
    have d10 := of_decide_eq_false c10
    rw [show IntKind.u64.wrap (opI .add .i64 2097152 (min (max cx 0) 256)) = 2097152 + min (max cx 0) 256 from (congrArg IntKind.u64.wrap (wrI (by omega) (by omega))).trans (wrU (by omega) (by omega))] at d10
    have d11 := of_decide_eq_false c11
    have d15 := of_decide_eq_false c15
    have d16 := of_decide_eq_false c16
    have d17 := of_decide_eq_true c17
    unfold rgn
    rw [if_neg (by omega), if_neg (by omega), if_neg (by omega), if_pos ⟨by omega, by omega, c18⟩]
  · have ha := in_u64 hat_
    have d0 := of_decide_eq_true c0
    have d1 := of_decide_eq_false c1
    have d10 := of_decide_eq_false c10
    rw [show IntKind.u64.wrap (opI .add .i64 2097152 (min (max cx 0) 256)) = 2097152 + min (max cx 0) 256 from (congrArg IntKind.u64.wrap (wrI (by omega) (by omega))).trans (wrU (by omega) (by omega))] at d10
    have d11 := of_decide_eq_false c11
    have d15 := of_decide_eq_false c15
    have d16 := of_decide_eq_false c16
    have d17 := of_decide_eq_true c17
    unfold rgn
    rw [if_neg (by omega), if_neg (by omega), if_neg (by omega), if_neg (fun h4 => by first | omega | exact absurd h4.2.2 (by rw [c18]; decide))]
  · have ha := in_u64 hat_
    have d0 := of_decide_eq_true c0
    have d1 := of_decide_eq_false c1
    have d10 := of_decide_eq_false c10
    rw [show IntKind.u64.wrap (opI .add .i64 2097152 (min (max cx 0) 256)) = 2097152 + min (max cx 0) 256 from (congrArg IntKind.u64.wrap (wrI (by omega) (by omega))).trans (wrU (by omega) (by omega))] at d10
    have d11 := of_decide_eq_false c11
    have d15 := of_decide_eq_false c15
    have d16 := of_decide_eq_false c16
    have d17 := of_decide_eq_false c17
    unfold rgn
    rw [if_neg (by omega), if_neg (by omega), if_neg (by omega), if_neg (fun h4 => by first | omega)]
  refine ⟨fun c19 => ?_, fun c19 => ?_⟩
  · have ha := in_u64 hat_
    have d0 := of_decide_eq_false c0
    have d19 := of_decide_eq_true c19
    rw [show IntKind.u64.wrap (opI .add .i64 1048576 (min (max tx 0) 16384)) = 1048576 + min (max tx 0) 16384 from (congrArg IntKind.u64.wrap (wrI (by omega) (by omega))).trans (wrU (by omega) (by omega))] at d19
    unfold rgn
    rw [if_pos (by omega)]
  refine ⟨fun c20 => ?_, fun c20 => ?_⟩
  refine ⟨fun c21 => ?_, fun c21 => ?_⟩
  refine ⟨fun c22 => ?_, fun c22 => ?_⟩
  · have ha := in_u64 hat_
    have d0 := of_decide_eq_false c0
    have d19 := of_decide_eq_false c19
    rw [show IntKind.u64.wrap (opI .add .i64 1048576 (min (max tx 0) 16384)) = 1048576 + min (max tx 0) 16384 from (congrArg IntKind.u64.wrap (wrI (by omega) (by omega))).trans (wrU (by omega) (by omega))] at d19
    have d20 := of_decide_eq_true c20
    have d21 := of_decide_eq_true c21
    have d22 := of_decide_eq_true c22
    unfold rgn
    rw [if_neg (by omega), if_neg (by omega), if_neg (by omega), if_neg (fun h4 => by first | omega)]
  refine ⟨fun c23 => ?_, fun c23 => ?_⟩
  refine ⟨fun c24 => ?_, fun c24 => ?_⟩
  · have ha := in_u64 hat_
    have d0 := of_decide_eq_false c0
    have d19 := of_decide_eq_false c19
    rw [show IntKind.u64.wrap (opI .add .i64 1048576 (min (max tx 0) 16384)) = 1048576 + min (max tx 0) 16384 from (congrArg IntKind.u64.wrap (wrI (by omega) (by omega))).trans (wrU (by omega) (by omega))] at d19
    have d20 := of_decide_eq_true c20
    have d21 := of_decide_eq_true c21
    have d22 := of_decide_eq_false c22
    have d23 := of_decide_eq_true c23
    unfold rgn
    rw [if_neg (by omega), if_neg (by omega), if_neg (by omega), if_pos ⟨by omega, by omega, c24⟩]
  · have ha := in_u64 hat_
    have d0 := of_decide_eq_false c0
    have d19 := of_decide_eq_false c19
    rw [show IntKind.u64.wrap (opI .add .i64 1048576 (min (max tx 0) 16384)) = 1048576 + min (max tx 0) 16384 from (congrArg IntKind.u64.wrap (wrI (by omega) (by omega))).trans (wrU (by omega) (by omega))] at d19
    have d20 := of_decide_eq_true c20
    have d21 := of_decide_eq_true c21
    have d22 := of_decide_eq_false c22
    have d23 := of_decide_eq_true c23
    unfold rgn
    rw [if_neg (by omega), if_neg (by omega), if_neg (by omega), if_neg (fun h4 => by first | omega | exact absurd h4.2.2 (by rw [c24]; decide))]
  · have ha := in_u64 hat_
    have d0 := of_decide_eq_false c0
    have d19 := of_decide_eq_false c19
    rw [show IntKind.u64.wrap (opI .add .i64 1048576 (min (max tx 0) 16384)) = 1048576 + min (max tx 0) 16384 from (congrArg IntKind.u64.wrap (wrI (by omega) (by omega))).trans (wrU (by omega) (by omega))] at d19
    have d20 := of_decide_eq_true c20
    have d21 := of_decide_eq_true c21
    have d22 := of_decide_eq_false c22
    have d23 := of_decide_eq_false c23
    unfold rgn
    rw [if_neg (by omega), if_neg (by omega), if_neg (by omega), if_neg (fun h4 => by first | omega)]
  refine ⟨fun c25 => ?_, fun c25 => ?_⟩
  · have ha := in_u64 hat_
    have d0 := of_decide_eq_false c0
    have d19 := of_decide_eq_false c19
    rw [show IntKind.u64.wrap (opI .add .i64 1048576 (min (max tx 0) 16384)) = 1048576 + min (max tx 0) 16384 from (congrArg IntKind.u64.wrap (wrI (by omega) (by omega))).trans (wrU (by omega) (by omega))] at d19
    have d20 := of_decide_eq_true c20
    have d21 := of_decide_eq_false c21
    have d25 := of_decide_eq_true c25
    unfold rgn
    rw [if_neg (by omega), if_neg (by omega), if_pos (by omega)]
  refine ⟨fun c26 => ?_, fun c26 => ?_⟩
  · have ha := in_u64 hat_
    have d0 := of_decide_eq_false c0
    have d19 := of_decide_eq_false c19
    rw [show IntKind.u64.wrap (opI .add .i64 1048576 (min (max tx 0) 16384)) = 1048576 + min (max tx 0) 16384 from (congrArg IntKind.u64.wrap (wrI (by omega) (by omega))).trans (wrU (by omega) (by omega))] at d19
    have d20 := of_decide_eq_true c20
    have d21 := of_decide_eq_false c21
    have d25 := of_decide_eq_false c25
    have d26 := of_decide_eq_true c26
    unfold rgn
    rw [if_neg (by omega), if_neg (by omega), if_neg (by omega), if_neg (fun h4 => by first | omega)]
  refine ⟨fun c27 => ?_, fun c27 => ?_⟩
  refine ⟨fun c28 => ?_, fun c28 => ?_⟩
  · have ha := in_u64 hat_
    have d0 := of_decide_eq_false c0
    have d19 := of_decide_eq_false c19
    rw [show IntKind.u64.wrap (opI .add .i64 1048576 (min (max tx 0) 16384)) = 1048576 + min (max tx 0) 16384 from (congrArg IntKind.u64.wrap (wrI (by omega) (by omega))).trans (wrU (by omega) (by omega))] at d19
    have d20 := of_decide_eq_true c20
    have d21 := of_decide_eq_false c21
    have d25 := of_decide_eq_false c25
    have d26 := of_decide_eq_false c26
    have d27 := of_decide_eq_true c27
    unfold rgn
    rw [if_neg (by omega), if_neg (by omega), if_neg (by omega), if_pos ⟨by omega, by omega, c28⟩]
  · have ha := in_u64 hat_
    have d0 := of_decide_eq_false c0
    have d19 := of_decide_eq_false c19
    rw [show IntKind.u64.wrap (opI .add .i64 1048576 (min (max tx 0) 16384)) = 1048576 + min (max tx 0) 16384 from (congrArg IntKind.u64.wrap (wrI (by omega) (by omega))).trans (wrU (by omega) (by omega))] at d19
    have d20 := of_decide_eq_true c20
    have d21 := of_decide_eq_false c21
    have d25 := of_decide_eq_false c25
    have d26 := of_decide_eq_false c26
    have d27 := of_decide_eq_true c27
    unfold rgn
    rw [if_neg (by omega), if_neg (by omega), if_neg (by omega), if_neg (fun h4 => by first | omega | exact absurd h4.2.2 (by rw [c28]; decide))]
  · have ha := in_u64 hat_
    have d0 := of_decide_eq_false c0
    have d19 := of_decide_eq_false c19
    rw [show IntKind.u64.wrap (opI .add .i64 1048576 (min (max tx 0) 16384)) = 1048576 + min (max tx 0) 16384 from (congrArg IntKind.u64.wrap (wrI (by omega) (by omega))).trans (wrU (by omega) (by omega))] at d19
    have d20 := of_decide_eq_true c20
    have d21 := of_decide_eq_false c21
    have d25 := of_decide_eq_false c25
    have d26 := of_decide_eq_false c26
    have d27 := of_decide_eq_false c27
    unfold rgn
    rw [if_neg (by omega), if_neg (by omega), if_neg (by omega), if_neg (fun h4 => by first | omega)]
  refine ⟨fun c29 => ?_, fun c29 => ?_⟩
  · have ha := in_u64 hat_
    have d0 := of_decide_eq_false c0
    have d19 := of_decide_eq_false c19
    rw [show IntKind.u64.wrap (opI .add .i64 1048576 (min (max tx 0) 16384)) = 1048576 + min (max tx 0) 16384 from (congrArg IntKind.u64.wrap (wrI (by omega) (by omega))).trans (wrU (by omega) (by omega))] at d19
    have d20 := of_decide_eq_false c20
    have d29 := of_decide_eq_true c29
    rw [show IntKind.u64.wrap (opI .add .i64 2097152 (min (max cx 0) 256)) = 2097152 + min (max cx 0) 256 from (congrArg IntKind.u64.wrap (wrI (by omega) (by omega))).trans (wrU (by omega) (by omega))] at d29
    unfold rgn
    rw [if_neg (by omega), if_pos (by omega)]
  refine ⟨fun c30 => ?_, fun c30 => ?_⟩
  refine ⟨fun c31 => ?_, fun c31 => ?_⟩
  · have ha := in_u64 hat_
    have d0 := of_decide_eq_false c0
    have d19 := of_decide_eq_false c19
    rw [show IntKind.u64.wrap (opI .add .i64 1048576 (min (max tx 0) 16384)) = 1048576 + min (max tx 0) 16384 from (congrArg IntKind.u64.wrap (wrI (by omega) (by omega))).trans (wrU (by omega) (by omega))] at d19
    have d20 := of_decide_eq_false c20
    have d29 := of_decide_eq_false c29
    rw [show IntKind.u64.wrap (opI .add .i64 2097152 (min (max cx 0) 256)) = 2097152 + min (max cx 0) 256 from (congrArg IntKind.u64.wrap (wrI (by omega) (by omega))).trans (wrU (by omega) (by omega))] at d29
    have d30 := of_decide_eq_true c30
    have d31 := of_decide_eq_true c31
    unfold rgn
    rw [if_neg (by omega), if_neg (by omega), if_neg (by omega), if_neg (fun h4 => by first | omega)]
  refine ⟨fun c32 => ?_, fun c32 => ?_⟩
  refine ⟨fun c33 => ?_, fun c33 => ?_⟩
  · have ha := in_u64 hat_
    have d0 := of_decide_eq_false c0
    have d19 := of_decide_eq_false c19
    rw [show IntKind.u64.wrap (opI .add .i64 1048576 (min (max tx 0) 16384)) = 1048576 + min (max tx 0) 16384 from (congrArg IntKind.u64.wrap (wrI (by omega) (by omega))).trans (wrU (by omega) (by omega))] at d19
    have d20 := of_decide_eq_false c20
    have d29 := of_decide_eq_false c29
    rw [show IntKind.u64.wrap (opI .add .i64 2097152 (min (max cx 0) 256)) = 2097152 + min (max cx 0) 256 from (congrArg IntKind.u64.wrap (wrI (by omega) (by omega))).trans (wrU (by omega) (by omega))] at d29
    have d30 := of_decide_eq_true c30
    have d31 := of_decide_eq_false c31
    have d32 := of_decide_eq_true c32
    unfold rgn
    rw [if_neg (by omega), if_neg (by omega), if_neg (by omega), if_pos ⟨by omega, by omega, c33⟩]
  · have ha := in_u64 hat_
    have d0 := of_decide_eq_false c0
    have d19 := of_decide_eq_false c19
    rw [show IntKind.u64.wrap (opI .add .i64 1048576 (min (max tx 0) 16384)) = 1048576 + min (max tx 0) 16384 from (congrArg IntKind.u64.wrap (wrI (by omega) (by omega))).trans (wrU (by omega) (by omega))] at d19
    have d20 := of_decide_eq_false c20
    have d29 := of_decide_eq_false c29
    rw [show IntKind.u64.wrap (opI .add .i64 2097152 (min (max cx 0) 256)) = 2097152 + min (max cx 0) 256 from (congrArg IntKind.u64.wrap (wrI (by omega) (by omega))).trans (wrU (by omega) (by omega))] at d29
    have d30 := of_decide_eq_true c30
    have d31 := of_decide_eq_false c31
    have d32 := of_decide_eq_true c32
    unfold rgn
    rw [if_neg (by omega), if_neg (by omega), if_neg (by omega), if_neg (fun h4 => by first | omega | exact absurd h4.2.2 (by rw [c33]; decide))]
  · have ha := in_u64 hat_
    have d0 := of_decide_eq_false c0
    have d19 := of_decide_eq_false c19
    rw [show IntKind.u64.wrap (opI .add .i64 1048576 (min (max tx 0) 16384)) = 1048576 + min (max tx 0) 16384 from (congrArg IntKind.u64.wrap (wrI (by omega) (by omega))).trans (wrU (by omega) (by omega))] at d19
    have d20 := of_decide_eq_false c20
    have d29 := of_decide_eq_false c29
    rw [show IntKind.u64.wrap (opI .add .i64 2097152 (min (max cx 0) 256)) = 2097152 + min (max cx 0) 256 from (congrArg IntKind.u64.wrap (wrI (by omega) (by omega))).trans (wrU (by omega) (by omega))] at d29
    have d30 := of_decide_eq_true c30
    have d31 := of_decide_eq_false c31
    have d32 := of_decide_eq_false c32
    unfold rgn
    rw [if_neg (by omega), if_neg (by omega), if_neg (by omega), if_neg (fun h4 => by first | omega)]
  refine ⟨fun c34 => ?_, fun c34 => ?_⟩
  · have ha := in_u64 hat_
    have d0 := of_decide_eq_false c0
    have d19 := of_decide_eq_false c19
    rw [show IntKind.u64.wrap (opI .add .i64 1048576 (min (max tx 0) 16384)) = 1048576 + min (max tx 0) 16384 from (congrArg IntKind.u64.wrap (wrI (by omega) (by omega))).trans (wrU (by omega) (by omega))] at d19
    have d20 := of_decide_eq_false c20
    have d29 := of_decide_eq_false c29
    rw [show IntKind.u64.wrap (opI .add .i64 2097152 (min (max cx 0) 256)) = 2097152 + min (max cx 0) 256 from (congrArg IntKind.u64.wrap (wrI (by omega) (by omega))).trans (wrU (by omega) (by omega))] at d29
    have d30 := of_decide_eq_false c30
    have d34 := of_decide_eq_true c34
    unfold rgn
    rw [if_neg (by omega), if_neg (by omega), if_pos (by omega)]
  refine ⟨fun c35 => ?_, fun c35 => ?_⟩
  · have ha := in_u64 hat_
    have d0 := of_decide_eq_false c0
    have d19 := of_decide_eq_false c19
    rw [show IntKind.u64.wrap (opI .add .i64 1048576 (min (max tx 0) 16384)) = 1048576 + min (max tx 0) 16384 from (congrArg IntKind.u64.wrap (wrI (by omega) (by omega))).trans (wrU (by omega) (by omega))] at d19
    have d20 := of_decide_eq_false c20
    have d29 := of_decide_eq_false c29
    rw [show IntKind.u64.wrap (opI .add .i64 2097152 (min (max cx 0) 256)) = 2097152 + min (max cx 0) 256 from (congrArg IntKind.u64.wrap (wrI (by omega) (by omega))).trans (wrU (by omega) (by omega))] at d29
    have d30 := of_decide_eq_false c30
    have d34 := of_decide_eq_false c34
    have d35 := of_decide_eq_true c35
    unfold rgn
    rw [if_neg (by omega), if_neg (by omega), if_neg (by omega), if_neg (fun h4 => by first | omega)]
  refine ⟨fun c36 => ?_, fun c36 => ?_⟩
  refine ⟨fun c37 => ?_, fun c37 => ?_⟩
  · have ha := in_u64 hat_
    have d0 := of_decide_eq_false c0
    have d19 := of_decide_eq_false c19
    rw [show IntKind.u64.wrap (opI .add .i64 1048576 (min (max tx 0) 16384)) = 1048576 + min (max tx 0) 16384 from (congrArg IntKind.u64.wrap (wrI (by omega) (by omega))).trans (wrU (by omega) (by omega))] at d19
    have d20 := of_decide_eq_false c20
    have d29 := of_decide_eq_false c29
    rw [show IntKind.u64.wrap (opI .add .i64 2097152 (min (max cx 0) 256)) = 2097152 + min (max cx 0) 256 from (congrArg IntKind.u64.wrap (wrI (by omega) (by omega))).trans (wrU (by omega) (by omega))] at d29
    have d30 := of_decide_eq_false c30
    have d34 := of_decide_eq_false c34
    have d35 := of_decide_eq_false c35
    have d36 := of_decide_eq_true c36
    unfold rgn
    rw [if_neg (by omega), if_neg (by omega), if_neg (by omega), if_pos ⟨by omega, by omega, c37⟩]
  · have ha := in_u64 hat_
    have d0 := of_decide_eq_false c0
    have d19 := of_decide_eq_false c19
    rw [show IntKind.u64.wrap (opI .add .i64 1048576 (min (max tx 0) 16384)) = 1048576 + min (max tx 0) 16384 from (congrArg IntKind.u64.wrap (wrI (by omega) (by omega))).trans (wrU (by omega) (by omega))] at d19
    have d20 := of_decide_eq_false c20
    have d29 := of_decide_eq_false c29
    rw [show IntKind.u64.wrap (opI .add .i64 2097152 (min (max cx 0) 256)) = 2097152 + min (max cx 0) 256 from (congrArg IntKind.u64.wrap (wrI (by omega) (by omega))).trans (wrU (by omega) (by omega))] at d29
    have d30 := of_decide_eq_false c30
    have d34 := of_decide_eq_false c34
    have d35 := of_decide_eq_false c35
    have d36 := of_decide_eq_true c36
    unfold rgn
    rw [if_neg (by omega), if_neg (by omega), if_neg (by omega), if_neg (fun h4 => by first | omega | exact absurd h4.2.2 (by rw [c37]; decide))]
  · have ha := in_u64 hat_
    have d0 := of_decide_eq_false c0
    have d19 := of_decide_eq_false c19
    rw [show IntKind.u64.wrap (opI .add .i64 1048576 (min (max tx 0) 16384)) = 1048576 + min (max tx 0) 16384 from (congrArg IntKind.u64.wrap (wrI (by omega) (by omega))).trans (wrU (by omega) (by omega))] at d19
    have d20 := of_decide_eq_false c20
    have d29 := of_decide_eq_false c29
    rw [show IntKind.u64.wrap (opI .add .i64 2097152 (min (max cx 0) 256)) = 2097152 + min (max cx 0) 256 from (congrArg IntKind.u64.wrap (wrI (by omega) (by omega))).trans (wrU (by omega) (by omega))] at d29
    have d30 := of_decide_eq_false c30
    have d34 := of_decide_eq_false c34
    have d35 := of_decide_eq_false c35
    have d36 := of_decide_eq_false c36
    unfold rgn
    rw [if_neg (by omega), if_neg (by omega), if_neg (by omega), if_neg (fun h4 => by first | omega)]
theorem sK_jregn {sp : Spec} {key : Nat} (hF : sp.F key = sF_jregn) (hP : sp.pre key = fun _ => True := by rfl) : SmOk Try.prog sp (sM_jregn key) :=
  fun_ok (s := sM_jregn key) hF hP (by kernel_rfl) tysok_MmG (sm0) Try.func23 fn0 sR_jregn (.inl rfl) (fun x0 gx0 x1 gx1 x2 gx2 x3 hp ρ g => sX_jregn x0 gx0 x1 gx1 x2 gx2 x3 ρ g)
end Go.Proofs.Ytmabagpagmcnlaa
