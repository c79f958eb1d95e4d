/- The law MemSays. -/
import Derived.Test.YtmabagpagmcnlaaMmG
import Derived.Test.YtmabagpagmcnlaaMmC
import Derived.Test.YtmabagpagmcnlaaMmQ
import Derived.Test.YtmabagpagmcnlaaProg
import Derived.Laws.Externs
set_option linter.unusedVariables false
set_option linter.unusedSimpArgs false
namespace Go.Proofs.Ytmabagpagmcnlaa
open Go.RowKit Go.ChangeShapes Go.WideShapes

set_option maxRecDepth 100000 in
def z_A64 : List C := repC [.int .u8 (.lit 0)] 64
theorem grd_A64 : Try.prog.eqGuardType Try.prog.depth 44 = false := by kernel_rfl
set_option maxRecDepth 100000 in
theorem kl_A64 : Kl Try.prog 7 44 z_A64 := Kl.array (d := 6) (Kl.int (d := 5) (.lit 0) Try.underlying5) Try.underlying44 (by kernel_rfl) (by kernel_rfl)
set_option maxRecDepth 100000 in
theorem fm_A64 (vs : List Value) (hv : kindsV vs z_A64) : (Value.agg vs.toArray).formed Try.prog 44 = true := by
  have hl : vs.length = 64 := (kindsV_len hv).trans (by kernel_rfl)
  have hc : Try.prog.cellsOf 44 = 64 := by kernel_rfl
  simp [Value.formed, Try.underlying44, hc, hl]
theorem eq_A64 (vs us : List Value) (hv : kindsV vs z_A64) (hu : kindsV us z_A64) (w : World) : (Op.equal 44 (.agg vs.toArray) (.agg us.toArray)).run Try.prog w = .ok (eqVs vs us) w :=
  eq_of_keys (by kernel_rfl) fm_A64 7 kl_A64 vs us hv hu w
def tys_MmH : List (Nat × TI) := [(3, ⟨false, 1, [.int .i64 (.lit 0)], [], none, some .i64, false, false, none, 8, false, none, false, 0⟩),
 (4, ⟨false, 1, [.bool (.tt false)], [], none, none, false, true, none, 1, false, none, false, 0⟩),
 (5, ⟨false, 1, [.int .u8 (.lit 0)], [], none, some .u8, false, false, none, 1, false, none, false, 0⟩),
 (22, ⟨false, 1, [.nsl], [], none, none, false, false, some 5, 24, false, none, false, 0⟩),
 (23, ⟨false, 1, [.int .u64 (.lit 0)], [], none, some .u64, false, false, none, 8, false, none, false, 0⟩),
 (25, ⟨false, 1, [.nilp], [], none, none, false, false, none, 8, false, none, false, 1⟩),
 (26, ⟨false, 1, [.int .i64 (.lit 0)], [], none, some .i64, false, false, none, 8, false, none, false, 0⟩),
 (38, ⟨false, 1, [.int .i8 (.lit 0)], [], none, some .i8, false, false, none, 1, false, none, false, 0⟩),
 (44, ⟨true, 64, [.int .u8 (.lit 0), .int .u8 (.lit 0), .int .u8 (.lit 0), .int .u8 (.lit 0), .int .u8 (.lit 0), .int .u8 (.lit 0), .int .u8 (.lit 0), .int .u8 (.lit 0), .int .u8 (.lit 0), .int .u8 (.lit 0), .int .u8 (.lit 0), .int .u8 (.lit 0), .int .u8 (.lit 0), .int .u8 (.lit 0), .int .u8 (.lit 0), .int .u8 (.lit 0), .int .u8 (.lit 0), .int .u8 (.lit 0), .int .u8 (.lit 0), .int .u8 (.lit 0), .int .u8 (.lit 0), .int .u8 (.lit 0), .int .u8 (.lit 0), .int .u8 (.lit 0), .int .u8 (.lit 0), .int .u8 (.lit 0), .int .u8 (.lit 0), .int .u8 (.lit 0), .int .u8 (.lit 0), .int .u8 (.lit 0), .int .u8 (.lit 0), .int .u8 (.lit 0), .int .u8 (.lit 0), .int .u8 (.lit 0), .int .u8 (.lit 0), .int .u8 (.lit 0), .int .u8 (.lit 0), .int .u8 (.lit 0), .int .u8 (.lit 0), .int .u8 (.lit 0), .int .u8 (.lit 0), .int .u8 (.lit 0), .int .u8 (.lit 0), .int .u8 (.lit 0), .int .u8 (.lit 0), .int .u8 (.lit 0), .int .u8 (.lit 0), .int .u8 (.lit 0), .int .u8 (.lit 0), .int .u8 (.lit 0), .int .u8 (.lit 0), .int .u8 (.lit 0), .int .u8 (.lit 0), .int .u8 (.lit 0), .int .u8 (.lit 0), .int .u8 (.lit 0), .int .u8 (.lit 0), .int .u8 (.lit 0), .int .u8 (.lit 0), .int .u8 (.lit 0), .int .u8 (.lit 0), .int .u8 (.lit 0), .int .u8 (.lit 0), .int .u8 (.lit 0)], [], some (64, 5), none, true, false, none, 64, false, none, false, 0⟩),
 (82, ⟨true, 3, [.int .u64 (.lit 0), .nsl, .bool (.tt false)], [(0, 23), (1, 22), (2, 4)], none, none, false, false, none, 40, false, none, false, 0⟩),
 (83, ⟨true, 12, [.int .u64 (.lit 0), .nsl, .bool (.tt false), .int .u64 (.lit 0), .nsl, .bool (.tt false), .int .u64 (.lit 0), .nsl, .bool (.tt false), .int .u64 (.lit 0), .nsl, .bool (.tt false)], [], some (4, 82), none, false, false, none, 160, false, none, false, 0⟩),
 (85, ⟨true, 12, [.int .u64 (.lit 0), .nsl, .bool (.tt false), .int .u64 (.lit 0), .nsl, .bool (.tt false), .int .u64 (.lit 0), .nsl, .bool (.tt false), .int .u64 (.lit 0), .nsl, .bool (.tt false)], [(0, 83)], none, none, false, false, none, 160, false, none, false, 0⟩)]
set_option maxRecDepth 100000 in
theorem tysck_MmH : (tys_MmH.all fun p => ckTI Try.prog p.1 p.2) = true := by kernel_rfl
theorem tyseq_MmH : (tys_MmH.all fun p => !p.2.eqok || ((Nat.beq p.1 44 && kindsC p.2.zero z_A64))) = true := by kernel_rfl
theorem tyskn_MmH : (tys_MmH.all fun p => !p.2.keyok) = true := by kernel_rfl
theorem tysok_MmH : ∀ t i, (t, i) ∈ tys_MmH → TIok Try.prog t i := by
  intro t i h
  refine TIok_of (all_at (f := ckTI Try.prog) tysck_MmH h) (fun he => ?_) (fun he => ?_) (fun he => ?_)
  · have h1 := List.all_eq_true.1 tyseq_MmH (t, i) h
    simp only [he, Bool.not_true, Bool.false_or, Bool.or_eq_true, Bool.and_eq_true] at h1
    have hs := h1.2
    obtain rfl := Nat.eq_of_beq_eq_true h1.1
    exact fun vs us hv hu => eq_A64 vs us (kindsV_of hs hv) (kindsV_of hs hu)
  · have h1 := List.all_eq_true.1 tyseq_MmH (t, i) h
    simp only [he, Bool.not_true, Bool.false_or, Bool.or_eq_true, Bool.and_eq_true] at h1
    have hs := h1.2
    obtain rfl := Nat.eq_of_beq_eq_true h1.1
    exact grd_A64
  · have h1 := List.all_eq_true.1 tyskn_MmH (t, i) h
    simp [he] at h1
def sM_msays (key : Nat) : Sm := ⟨5, key, [.one (.int .u64), .one (.int .i64), .one (.int .i64), .one .bool, .one (.int .i64)], [.one .bool], false⟩
def sV_msays (at_ : Int) (cx : Int) (tx : Int) (ws : Bool) (n : Int) : List Dt := [.z (b2i true)]
def sF_msays : List Dt → List Dt
  | [.z x0, .z x1, .z x2, .z x3, .z x4] => sV_msays x0 x1 x2 (x3 == 1) x4
  | _ => []
def sT_msays : Tr :=
(.call 0 [.int .i8] (.vs 0 3 (.consb (.bvar 3) .nil)) 5
(.call 1 [.int .i8] (.vs 0 3 (.consb (.bvar 3) .nil)) 6
(.br (.eq (.var 5) (.var 6))
(.call 2 [.bool] .nil 7
(.leaf (.consb (.bvar 7) .nil)))
(.leaf (.consb (.tt false) .nil)))))
def sP_msays : Spec := ⟨fun k => match k with | 0 => sF_mregn | 1 => sF_jregn | 2 => sF_mwakes | _ => fun _ => [], fun k => match k with | _ => fun _ => True⟩
set_option maxRecDepth 100000 in
theorem sR_msays : treeIs tys_MmH [sM_mregn 0, sM_jregn 1, sM_mwakes 2] [(15, Try.f15, [], []), (19, Try.f19, [], []), (40, Try.f40, [], []), (14, Try.f14, [], []), (20, Try.f20, [], []), (21, Try.f21, [], []), (22, Try.f22, [], []), (41, Try.f41, [], []), (18, Try.f18, [], [])] [(999998, [])] [] 200 Try.f5 [.one (.int .u64), .one (.int .i64), .one (.int .i64), .one .bool, .one (.int .i64)] [.one .bool] false [.int .u64, .int .i64, .int .i64, .bool, .int .i64] sT_msays := ⟨by kernel_rfl, by kernel_rfl, by kernel_rfl⟩
set_option maxRecDepth 100000 in
set_option maxHeartbeats 8000000 in
theorem sX_msays (at_ : Int) (hat_ : inK .u64 at_ = true) (cx : Int) (hcx : inK .i64 cx = true) (tx : Int) (htx : inK .i64 tx = true) (ws : Bool) (n : Int) (hn : inK .i64 n = true) (ρ : Env) (g : varsD ρ 0 [.int .u64, .int .i64, .int .i64, .bool, .int .i64] = [.z at_, .z cx, .z tx, .z (b2i ws), .z n]) : sT_msays.asks sP_msays (fun ρ e => e.D ρ = sF_msays [.z at_, .z cx, .z tx, .z (b2i ws), .z n]) ρ fun _ _ => False := by
  simp only [varsD, varD, List.cons.injEq, Dt.z.injEq, Dt.l.injEq, b2i_eq_iff, Nat.reduceAdd, and_true] at g
  simp only [sT_msays, sP_msays, sF_mregn, sF_jregn, sF_mwakes, sV_mregn, sV_jregn, sF_msays, sV_msays, Tr.asks, upd_same, okDs, okD, eqs, E.I, E.B, E.L, E.R, E.D, E.vs, dI, dB, dL, varD, varsD, List.getElem?_cons_zero, List.getElem?_cons_succ, List.cons_append, List.nil_append, Nat.zero_add, Nat.add_zero, Nat.reduceAdd, and_true, true_and, b2i_one, -eq_self, Mem.eta, g]
  intro e; (try simp only [e, Mem.eta, -eq_self]); clear e
  intro e; (try simp only [e, Mem.eta, -eq_self]); clear e
  refine ⟨fun c0 => ?_, fun c0 => ?_⟩
  intro e; (try simp only [e, Mem.eta, -eq_self]); clear e
  · rfl
  · exact absurd rfl (neI c0)
theorem sC_msays (xs : List Dt) (vals : List Value) (w : World) (hw : shRel w [.one (.int .u64), .one (.int .i64), .one (.int .i64), .one .bool, .one (.int .i64)] xs vals) : Calls Try.prog 5 vals.toArray w fun e w' => ∃ v, e = .returned v ∧ RetOk [.one .bool] false w w' (sF_msays xs) v :=
  (fun_calls (by kernel_rfl) tysok_MmH (smc (sK_mregn rfl) (smc (sK_jregn rfl) (smc (sK_mwakes rfl) sm0))) Try.func5 (fnc Try.func15 (fnc Try.func19 (fnc Try.func40 (fnc Try.func14 (fnc Try.func20 (fnc Try.func21 (fnc Try.func22 (fnc Try.func41 (fnc Try.func18 fn0))))))))) sR_msays (pre := fun _ => True) (fun x0 gx0 x1 gx1 x2 gx2 x3 x4 gx4 hp ρ g => sX_msays x0 gx0 x1 gx1 x2 gx2 x3 x4 gx4 ρ g) xs vals w hw trivial).2
set_option maxRecDepth 100000 in
set_option maxHeartbeats 8000000 in
theorem law_MemSays (a0 : Int) (w0 : (Lit.int .u64 a0).wf = true) (a1 : Int) (w1 : (Lit.int .i64 a1).wf = true) (a2 : Int) (w2 : (Lit.int .i64 a2).wf = true) (a3 : Bool) (a4 : Int) (w4 : (Lit.int .i64 a4).wf = true) (W : World) :
    Calls Try.prog 5 #[.int .u64 a0, .int .i64 a1, .int .i64 a2, .bool a3, .int .i64 a4] W fun e W' => e = .returned (.bool true) ∧ Below W.heap.size W W' := by
  refine (sC_msays (.z a0 :: ( .z a1 :: ( .z a2 :: ( .z (b2i a3) :: ( .z a4 :: ([])))))) _ W ⟨_, _, _, rfl, ⟨_, rfl, rfl, (inK_of_wf w0)⟩, ⟨_, _, _, rfl, ⟨_, rfl, rfl, (inK_of_wf w1)⟩, ⟨_, _, _, rfl, ⟨_, rfl, rfl, (inK_of_wf w2)⟩, ⟨_, _, _, rfl, ⟨_, rfl, rfl⟩, ⟨_, _, _, rfl, ⟨_, rfl, rfl, (inK_of_wf w4)⟩, ⟨rfl, rfl⟩⟩⟩⟩⟩⟩).mono fun e W' ⟨v, he, hr⟩ => ?_
  have hv : v = .bool true := RetOk.says hr
  rw [he, hv]
  exact ⟨rfl, hr.ext⟩
end Go.Proofs.Ytmabagpagmcnlaa
