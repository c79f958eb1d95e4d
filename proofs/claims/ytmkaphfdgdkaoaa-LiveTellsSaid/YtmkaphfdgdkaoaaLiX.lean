/- The law LiveTells. -/
import Derived.Test.YtmkaphfdgdkaoaaLiV
import Derived.Test.YtmkaphfdgdkaoaaLiQ
import Derived.Test.YtmkaphfdgdkaoaaProg
import Derived.Laws.Externs
set_option linter.unusedVariables false
set_option linter.unusedSimpArgs false
namespace Go.Proofs.Ytmkaphfdgdkaoaa
open Go.RowKit Go.ChangeShapes Go.WideShapes

def tys_LiX : List (Nat × TI) := [(3, ⟨false, 1, [.int .i64 (.lit 0)], [], none, some .i64, false, false, none, 8, false, none, false⟩),
 (4, ⟨false, 1, [.bool (.tt false)], [], none, none, false, true, none, 1, false, none, false⟩),
 (22, ⟨false, 1, [.nsl], [], none, none, false, false, some 33, 24, false, none, false⟩),
 (24, ⟨true, 2, [.int .i64 (.lit 0), .nsl], [(0, 3), (1, 22)], none, none, false, false, none, 32, false, none, false⟩),
 (28, ⟨false, 1, [.int .i64 (.lit 0)], [], none, some .i64, false, false, none, 8, false, none, false⟩),
 (31, ⟨false, 1, [.int .i8 (.lit 0)], [], none, some .i8, false, false, none, 1, false, none, false⟩),
 (33, ⟨true, 9, [.int .i8 (.lit 0), .int .i8 (.lit 0), .int .i8 (.lit 0), .int .i8 (.lit 0), .bool (.tt false), .int .i8 (.lit 0), .int .i8 (.lit 0), .int .i64 (.lit 0), .int .i64 (.lit 0)], [(0, 31), (1, 31), (2, 31), (3, 31), (4, 4), (5, 31), (6, 31), (7, 3), (8, 3)], none, none, true, false, none, 24, false, none, false⟩)]
set_option maxRecDepth 100000 in
theorem tysck_LiX : (tys_LiX.all fun p => ckTI Try.prog p.1 p.2) = true := by kernel_rfl
theorem tyseq_LiX : (tys_LiX.all fun p => !p.2.eqok || ((Nat.beq p.1 33 && kindsC p.2.zero z_Ins))) = true := by kernel_rfl
theorem tyskn_LiX : (tys_LiX.all fun p => !p.2.keyok) = true := by kernel_rfl
theorem tysok_LiX : ∀ t i, (t, i) ∈ tys_LiX → TIok Try.prog t i := by
  intro t i h
  refine TIok_of (all_at (f := ckTI Try.prog) tysck_LiX h) (fun he => ?_) (fun he => ?_) (fun he => ?_)
  · have h1 := List.all_eq_true.1 tyseq_LiX (t, i) h
    simp only [he, Bool.not_true, Bool.false_or, Bool.or_eq_true, Bool.and_eq_true] at h1
    have hs := h1.2
    obtain rfl := Nat.eq_of_beq_eq_true h1.1
    exact fun vs us hv hu => eq_Ins vs us (kindsV_of hs hv) (kindsV_of hs hu)
  · have h1 := List.all_eq_true.1 tyseq_LiX (t, i) h
    simp only [he, Bool.not_true, Bool.false_or, Bool.or_eq_true, Bool.and_eq_true] at h1
    have hs := h1.2
    obtain rfl := Nat.eq_of_beq_eq_true h1.1
    exact grd_Ins
  · have h1 := List.all_eq_true.1 tyskn_LiX (t, i) h
    simp [he] at h1
def sM_ltells (key : Nat) : Sm := ⟨5, key, [.agg kProg, .one (.int .i64), .one (.int .i64)], [.one .bool], false⟩
def sV_ltells (pr : Prog) (i : Int) (r : Int) : List Dt := [.z (b2i true)]
def sF_ltells : List Dt → List Dt
  | [.z x0, .l x1, .z x2, .z x3] => sV_ltells ⟨x0, x1⟩ x2 x3
  | _ => []
def sT_ltells : Tr :=
(.call 0 ([.bool]) (.cons (.var 0) (.consl (.lvar 1) .nil)) 4
(.br (.bvar 4)
(.call 10 ([.bool]) .nil 5
(.leaf (.consb (.bvar 5) .nil)))
(.call 1 ([.sl [some .i64] 3] ++ [.sl [some .i64] 3] ++ [.int .i64]) (.cons (.var 0) (.consl (.lvar 1) .nil)) 5
(.call 2 ([.sl [some .i64] 3] ++ [.sl [some .i64] 3] ++ [.int .i64]) (.cons (.var 0) (.consl (.lvar 1) .nil)) 8
(.call 3 ([.bool]) (.consl (.lvar 5) (.consl (.lvar 8) .nil)) 11
(.br (.bvar 11)
(.call 3 ([.bool]) (.consl (.lvar 6) (.consl (.lvar 9) .nil)) 12
(.br (.bvar 12)
(.br (.eq (.var 7) (.var 10))
(.call 4 ([.sl [some .i64] 3]) (.cons (.var 0) (.consl (.lvar 1) (.cons (.var 2) .nil))) 13
(.call 5 ([.sl [some .i64] 3]) (.cons (.var 0) (.consl (.lvar 1) (.cons (.var 2) .nil))) 14
(.call 3 ([.bool]) (.consl (.lvar 13) (.consl (.lvar 14) .nil)) 15
(.br (.bvar 15)
(.call 6 ([.sl [some .i64] 3]) (.cons (.var 0) (.consl (.lvar 1) .nil)) 16
(.call 7 ([.sl [some .i64] 3]) (.cons (.var 0) (.consl (.lvar 1) .nil)) 17
(.call 3 ([.bool]) (.consl (.lvar 16) (.consl (.lvar 17) .nil)) 18
(.br (.bvar 18)
(.call 8 ([.bool]) (.cons (.var 0) (.consl (.lvar 1) (.cons (.var 3) .nil))) 19
(.call 9 ([.bool]) (.cons (.var 0) (.consl (.lvar 1) (.cons (.var 3) .nil))) 20
(.br (.beq (.bvar 19) (.bvar 20))
(.call 10 ([.bool]) .nil 21
(.leaf (.consb (.bvar 21) .nil)))
(.leaf (.consb (.tt false) .nil)))))
(.leaf (.consb (.tt false) .nil))))))
(.leaf (.consb (.tt false) .nil))))))
(.leaf (.consb (.tt false) .nil)))
(.leaf (.consb (.tt false) .nil))))
(.leaf (.consb (.tt false) .nil))))))))
def sP_ltells : Spec := ⟨fun k => match k with | 0 => sF_lgreat | 1 => sF_lrun | 2 => sF_jrun | 3 => sF_ints | 4 => sF_lnx | 5 => sF_jnx | 6 => sF_lcalls | 7 => sF_jcalls | 8 => sF_lcross | 9 => sF_jcross | 10 => sF_lwakes | _ => fun _ => [], fun k => match k with | 0 => sQ_lgreat | 1 => sQ_lrun | 2 => sQ_jrun | 3 => sQ_ints | 4 => sQ_lnx | 5 => sQ_jnx | 6 => sQ_lcalls | 7 => sQ_jcalls | 8 => sQ_lcross | 9 => sQ_jcross | _ => fun _ => True⟩
set_option maxRecDepth 100000 in
theorem sR_ltells : treeIs tys_LiX [sM_lgreat 0, sM_lrun 1, sM_jrun 2, sM_ints 3, sM_lnx 4, sM_jnx 5, sM_lcalls 6, sM_jcalls 7, sM_lcross 8, sM_jcross 9, sM_lwakes 10] [] [] [] 200 Try.f5 [.agg kProg, .one (.int .i64), .one (.int .i64)] [.one .bool] false [.int .i64, .list [some .i8, some .i8, some .i8, some .i8, none, some .i8, some .i8, some .i64, some .i64], .int .i64, .int .i64] sT_ltells := ⟨by kernel_rfl, by kernel_rfl, by kernel_rfl⟩
set_option maxRecDepth 100000 in
set_option maxHeartbeats 8000000 in
theorem sX_ltells (pr : Prog) (hpr : Prog.ok pr) (i : Int) (hi : inK .i64 i = true) (r : Int) (hr : inK .i64 r = true) (ρ : Env) (g : varsD ρ 0 [.int .i64, .list [some .i8, some .i8, some .i8, some .i8, none, some .i8, some .i8, some .i64, some .i64], .int .i64, .int .i64] = [.z pr.ctx, .l pr.l, .z i, .z r]) : sT_ltells.asks sP_ltells (fun ρ e => e.D ρ = sF_ltells [.z pr.ctx, .l pr.l, .z i, .z r]) ρ fun _ _ => False := by
  simp only [varsD, varD, List.cons.injEq, Dt.z.injEq, Dt.l.injEq, b2i_eq_iff, Nat.reduceAdd, and_true] at g
  simp only [sT_ltells, sP_ltells, sF_lgreat, sF_lrun, sF_jrun, sF_ints, sF_lnx, sF_jnx, sF_lcalls, sF_jcalls, sF_lcross, sF_jcross, sF_lwakes, sV_lgreat, sV_lrun, sV_jrun, sV_ints, sV_lnx, sV_jnx, sV_lcalls, sV_jcalls, sV_lcross, sV_jcross, sF_ltells, sV_ltells, sQ_lgreat, sQ_lrun, sQ_jrun, sQ_ints, sQ_lnx, sQ_jnx, sQ_lcalls, sQ_jcalls, sQ_lcross, sQ_jcross, Tr.asks, upd_same, okDs, okD, eqs, E.I, E.B, E.L, E.R, E.D, E.vs, dI, dB, dL, varD, varsD, List.getElem?_cons_zero, List.getElem?_cons_succ, List.cons_append, List.nil_append, Nat.zero_add, Nat.add_zero, Nat.reduceAdd, and_true, true_and, b2i_one, -eq_self, Ins.eta, Prog.eta, insAt_mk, g]
  have hp : pr.l.length ≤ maxLen := hpr.2.len
  refine ⟨?_, ?_⟩
  · exact hp
  intro e; (try simp only [e, Ins.eta, Prog.eta, insAt_mk, -eq_self]); clear e
  refine ⟨fun c0 => ?_, fun c0 => ?_⟩
  intro e; (try simp only [e, Ins.eta, Prog.eta, insAt_mk, -eq_self]); clear e
  · rfl
  refine ⟨?_, ?_⟩
  · exact hp
  intro e; (try simp only [e, Ins.eta, Prog.eta, insAt_mk, -eq_self]); clear e
  refine ⟨?_, ?_⟩
  · exact hp
  intro e; (try simp only [e, Ins.eta, Prog.eta, insAt_mk, -eq_self]); clear e
  refine ⟨?_, ?_⟩
  · constructor <;> first | exact Nat.le_trans (lrun_len hp) hp | exact Nat.le_trans (lrun_lenO hp) hp | exact Nat.le_trans (lnx_len _ _) (by decide) | exact Nat.le_trans (lcalls_len _) hp
  intro e; (try simp only [e, Ins.eta, Prog.eta, insAt_mk, -eq_self]); clear e
  refine ⟨fun c1 => ?_, fun c1 => ?_⟩
  refine ⟨?_, ?_⟩
  · constructor <;> first | exact Nat.le_trans (lrun_len hp) hp | exact Nat.le_trans (lrun_lenO hp) hp | exact Nat.le_trans (lnx_len _ _) (by decide) | exact Nat.le_trans (lcalls_len _) hp
  intro e; (try simp only [e, Ins.eta, Prog.eta, insAt_mk, -eq_self]); clear e
  refine ⟨fun c2 => ?_, fun c2 => ?_⟩
  refine ⟨fun c3 => ?_, fun c3 => ?_⟩
  refine ⟨?_, ?_⟩
  · exact hp
  intro e; (try simp only [e, Ins.eta, Prog.eta, insAt_mk, -eq_self]); clear e
  refine ⟨?_, ?_⟩
  · exact hp
  intro e; (try simp only [e, Ins.eta, Prog.eta, insAt_mk, -eq_self]); clear e
  refine ⟨?_, ?_⟩
  · constructor <;> first | exact Nat.le_trans (lrun_len hp) hp | exact Nat.le_trans (lrun_lenO hp) hp | exact Nat.le_trans (lnx_len _ _) (by decide) | exact Nat.le_trans (lcalls_len _) hp
  intro e; (try simp only [e, Ins.eta, Prog.eta, insAt_mk, -eq_self]); clear e
  refine ⟨fun c4 => ?_, fun c4 => ?_⟩
  refine ⟨?_, ?_⟩
  · exact hp
  intro e; (try simp only [e, Ins.eta, Prog.eta, insAt_mk, -eq_self]); clear e
  refine ⟨?_, ?_⟩
  · exact hp
  intro e; (try simp only [e, Ins.eta, Prog.eta, insAt_mk, -eq_self]); clear e
  refine ⟨?_, ?_⟩
  · constructor <;> first | exact Nat.le_trans (lrun_len hp) hp | exact Nat.le_trans (lrun_lenO hp) hp | exact Nat.le_trans (lnx_len _ _) (by decide) | exact Nat.le_trans (lcalls_len _) hp
  intro e; (try simp only [e, Ins.eta, Prog.eta, insAt_mk, -eq_self]); clear e
  refine ⟨fun c5 => ?_, fun c5 => ?_⟩
  refine ⟨?_, ?_⟩
  · exact hp
  intro e; (try simp only [e, Ins.eta, Prog.eta, insAt_mk, -eq_self]); clear e
  refine ⟨?_, ?_⟩
  · exact hp
  intro e; (try simp only [e, Ins.eta, Prog.eta, insAt_mk, -eq_self]); clear e
  refine ⟨fun c6 => ?_, fun c6 => ?_⟩
  intro e; (try simp only [e, Ins.eta, Prog.eta, insAt_mk, -eq_self]); clear e
  · rfl
  · exact absurd c6 (by simp)
  · exact absurd rfl (of_decide_eq_false c5)
  · exact absurd rfl (of_decide_eq_false c4)
  · exact absurd rfl (neI c3)
  · exact absurd rfl (of_decide_eq_false c2)
  · exact absurd rfl (of_decide_eq_false c1)
theorem sC_ltells (xs : List Dt) (vals : List Value) (w : World) (hw : shRel w [.agg kProg, .one (.int .i64), .one (.int .i64)] xs vals) : Calls Try.prog 5 vals.toArray w fun e w' => ∃ v, e = .returned v ∧ RetOk [.one .bool] false w w' (sF_ltells xs) v :=
  (fun_calls (by kernel_rfl) tysok_LiX (smc (sK_lgreat rfl rfl) (smc (sK_lrun rfl rfl) (smc (sK_jrun rfl rfl) (smc (sK_ints rfl rfl) (smc (sK_lnx rfl rfl) (smc (sK_jnx rfl rfl) (smc (sK_lcalls rfl rfl) (smc (sK_jcalls rfl rfl) (smc (sK_lcross rfl rfl) (smc (sK_jcross rfl rfl) (smc (sK_lwakes rfl) sm0))))))))))) Try.func5 fn0 sR_ltells (pre := fun _ => True) (fun x0 gx0 x1 gx1 x2 gx2 x3 gx3 hp ρ g => sX_ltells ⟨x0, x1⟩ ⟨gx0, gx1⟩ x2 gx2 x3 gx3 ρ g) xs vals w hw trivial).2
set_option maxRecDepth 100000 in
set_option maxHeartbeats 8000000 in
theorem law_LiveTells {H : Type} {enc : TypeId × Value → H} {W : World} {r : Reach} {b0 : Nat} (v0 : Value) (k0 : Value.okWide Try.prog W r b0 24 v0) (d0 : DataW H) (p0 : List MemPlace) (h0 : DataW.Trod enc Try.prog W 0 (fun _ => true) true 24 v0 d0 p0) (_ : ∀ x ∈ p0, x.block < W.heap.size) (a1 : Int) (w1 : (Lit.int .i64 a1).wf = true) (a2 : Int) (w2 : (Lit.int .i64 a2).wf = true) :
    Calls Try.prog 5 #[v0, .int .i64 a1, .int .i64 a2] W fun e W' => e = .returned (.bool true) ∧ Below W.heap.size W W' := by
  obtain ⟨a0, q0, s0, rfl, w0, n0, m0, o0, l0⟩ := Prog.of_arg k0 h0
  refine (sC_ltells (.z a0 :: ( .l q0 :: ( .z a1 :: ( .z a2 :: ([]))))) _ W ⟨_, _, _, rfl, ⟨_, _, _, rfl, ⟨_, rfl, rfl, w0⟩, ⟨_, _, _, rfl, ⟨_, _, rfl, rfl, n0, m0, o0, l0⟩, ⟨rfl, rfl⟩⟩⟩, ⟨_, _, _, rfl, ⟨_, rfl, rfl, (inK_of_wf w1)⟩, ⟨_, _, _, rfl, ⟨_, rfl, rfl, (inK_of_wf w2)⟩, ⟨rfl, rfl⟩⟩⟩⟩).mono fun e W' ⟨v, he, hr⟩ => ?_
  have hv : v = .bool true := RetOk.says hr
  rw [he, hv]
  exact ⟨rfl, hr.ext⟩
end Go.Proofs.Ytmkaphfdgdkaoaa
