/- Contracts of live.Next, latheref06.Great and what the law is awake by. -/
import Derived.Test.YtmkaphfdgdkaoaaLiF
import Derived.Test.YtmkaphfdgdkaoaaLiG
import Derived.Test.YtmkaphfdgdkaoaaProg
import Derived.Laws.Externs
set_option linter.unusedVariables false
set_option linter.unusedSimpArgs false
namespace Go.Proofs.Ytmkaphfdgdkaoaa
open Go.RowKit Go.ChangeShapes Go.WideShapes

def tys_LiU : List (Nat × TI) := [(3, ⟨false, 1, [.int .i64 (.lit 0)], [], none, some .i64, false, false, none, 8, false, none, false⟩),
 (4, ⟨false, 1, [.bool (.tt false)], [], none, none, false, true, none, 1, false, none, false⟩),
 (22, ⟨false, 1, [.nsl], [], none, none, false, false, some 33, 24, false, none, false⟩),
 (24, ⟨true, 2, [.int .i64 (.lit 0), .nsl], [(0, 3), (1, 22)], none, none, false, false, none, 32, false, none, false⟩),
 (27, ⟨false, 1, [.nsl], [], none, none, false, false, some 3, 24, false, none, false⟩),
 (28, ⟨false, 1, [.int .i64 (.lit 0)], [], none, some .i64, false, false, none, 8, false, none, false⟩),
 (31, ⟨false, 1, [.int .i8 (.lit 0)], [], none, some .i8, false, false, none, 1, false, none, false⟩),
 (33, ⟨true, 9, [.int .i8 (.lit 0), .int .i8 (.lit 0), .int .i8 (.lit 0), .int .i8 (.lit 0), .bool (.tt false), .int .i8 (.lit 0), .int .i8 (.lit 0), .int .i64 (.lit 0), .int .i64 (.lit 0)], [(0, 31), (1, 31), (2, 31), (3, 31), (4, 4), (5, 31), (6, 31), (7, 3), (8, 3)], none, none, true, false, none, 24, false, none, false⟩)]
set_option maxRecDepth 100000 in
theorem tysck_LiU : (tys_LiU.all fun p => ckTI Try.prog p.1 p.2) = true := by kernel_rfl
theorem tyseq_LiU : (tys_LiU.all fun p => !p.2.eqok || ((Nat.beq p.1 33 && kindsC p.2.zero z_Ins))) = true := by kernel_rfl
theorem tyskn_LiU : (tys_LiU.all fun p => !p.2.keyok) = true := by kernel_rfl
theorem tysok_LiU : ∀ t i, (t, i) ∈ tys_LiU → TIok Try.prog t i := by
  intro t i h
  refine TIok_of (all_at (f := ckTI Try.prog) tysck_LiU h) (fun he => ?_) (fun he => ?_) (fun he => ?_)
  · have h1 := List.all_eq_true.1 tyseq_LiU (t, i) h
    simp only [he, Bool.not_true, Bool.false_or, Bool.or_eq_true, Bool.and_eq_true] at h1
    have hs := h1.2
    obtain rfl := Nat.eq_of_beq_eq_true h1.1
    exact fun vs us hv hu => eq_Ins vs us (kindsV_of hs hv) (kindsV_of hs hu)
  · have h1 := List.all_eq_true.1 tyseq_LiU (t, i) h
    simp only [he, Bool.not_true, Bool.false_or, Bool.or_eq_true, Bool.and_eq_true] at h1
    have hs := h1.2
    obtain rfl := Nat.eq_of_beq_eq_true h1.1
    exact grd_Ins
  · have h1 := List.all_eq_true.1 tyskn_LiU (t, i) h
    simp [he] at h1
def sM_lgreat (key : Nat) : Sm := ⟨13, key, [.agg kProg], [.one .bool], false⟩
def sV_lgreat (pr : Prog) : List Dt := [.z (b2i (decide ((100 : Int) < (pr.l.length : Int))))]
def sF_lgreat : List Dt → List Dt
  | [.z x0, .l x1] => sV_lgreat ⟨x0, x1⟩
  | _ => []
def sT_lgreat : Tr :=
(.leaf (.consb (.lt (.lit 100) (.len (.lvar 1))) .nil))
def sP_lgreat : Spec := ⟨fun k => match k with | _ => fun _ => [], fun k => match k with | _ => fun _ => True⟩
set_option maxRecDepth 100000 in
theorem sR_lgreat : treeIs tys_LiU [] [] [] [] 200 Try.f13 [.agg kProg] [.one .bool] false [.int .i64, .list [some .i8, some .i8, some .i8, some .i8, none, some .i8, some .i8, some .i64, some .i64]] sT_lgreat := ⟨by kernel_rfl, by kernel_rfl, by kernel_rfl⟩
def sQ_lgreat : List Dt → Prop
  | [.z x0, .l x1] => let f (pr : Prog) : Prop := pr.l.length ≤ maxLen; f ⟨x0, x1⟩
  | _ => False
set_option maxRecDepth 100000 in
set_option maxHeartbeats 8000000 in
theorem sX_lgreat (pr : Prog) (hpr : Prog.ok pr) (hp : sQ_lgreat [.z pr.ctx, .l pr.l]) (ρ : Env) (g : varsD ρ 0 [.int .i64, .list [some .i8, some .i8, some .i8, some .i8, none, some .i8, some .i8, some .i64, some .i64]] = [.z pr.ctx, .l pr.l]) : sT_lgreat.asks sP_lgreat (fun ρ e => e.D ρ = sF_lgreat [.z pr.ctx, .l pr.l]) ρ fun _ _ => False := by
  simp only [sQ_lgreat, b2i_one, Ins.eta, Prog.eta, insAt_mk] at hp
  simp only [varsD, varD, List.cons.injEq, Dt.z.injEq, Dt.l.injEq, b2i_eq_iff, Nat.reduceAdd, and_true] at g
  simp only [sT_lgreat, sP_lgreat, sF_lgreat, sV_lgreat, Tr.asks, upd_same, okDs, okD, eqs, E.I, E.B, E.L, E.R, E.D, E.vs, dI, dB, dL, varD, varsD, List.getElem?_cons_zero, List.getElem?_cons_succ, List.cons_append, List.nil_append, Nat.zero_add, Nat.add_zero, Nat.reduceAdd, and_true, true_and, b2i_one, -eq_self, Ins.eta, Prog.eta, insAt_mk, g]
  · try rfl
theorem sK_lgreat {sp : Spec} {key : Nat} (hF : sp.F key = sF_lgreat) (hP : sp.pre key = sQ_lgreat) : SmOk Try.prog sp (sM_lgreat key) :=
  fun_ok (s := sM_lgreat key) hF hP (by kernel_rfl) tysok_LiU (sm0) Try.func13 fn0 sR_lgreat (.inr (fun xs h L hL => by unfold sQ_lgreat at h; split at h <;> first | exact h.elim | (simp at hL; subst hL; exact h))) (fun x0 gx0 x1 gx1 hp ρ g => sX_lgreat ⟨x0, x1⟩ ⟨gx0, gx1⟩ hp ρ g)
def sM_lnx (key : Nat) : Sm := ⟨18, key, [.agg kProg, .one (.int .i64)], [.one (.sl [some .i64] 3)], false⟩
def sV_lnx (pr : Prog) (i : Int) : List Dt := [.l (lnx pr i)]
def sF_lnx : List Dt → List Dt
  | [.z x0, .l x1, .z x2] => sV_lnx ⟨x0, x1⟩ x2
  | _ => []
def sT_lnx : Tr :=
(.call 0 ([.int .i64] ++ [.int .i64]) (.cons (.var 0) (.consl (.lvar 1) .nil)) 3
(.br (.eq (.var 4) (.lit 0))
(.br (.lt (.var 2) (.lit 0))
(.leaf (.consl .lnil .nil))
(.br (.lt (.var 2) (.len (.lvar 1)))
(.call 1 ([.sl [some .i64] 3]) (.cons (.var 0) (.consl (.lvar 1) (.cons (.var 2) .nil))) 5
(.leaf (.consl (.lvar 5) .nil)))
(.leaf (.consl .lnil .nil))))
(.leaf (.consl .lnil .nil))))
def sP_lnx : Spec := ⟨fun k => match k with | 0 => sF_icheck | 1 => sF_lnext | _ => fun _ => [], fun k => match k with | 0 => sQ_icheck | 1 => sQ_lnext | _ => fun _ => True⟩
set_option maxRecDepth 100000 in
theorem sR_lnx : treeIs tys_LiU [sM_icheck 0, sM_lnext 1] [] [] [] 200 Try.f18 [.agg kProg, .one (.int .i64)] [.one (.sl [some .i64] 3)] false [.int .i64, .list [some .i8, some .i8, some .i8, some .i8, none, some .i8, some .i8, some .i64, some .i64], .int .i64] sT_lnx := ⟨by kernel_rfl, by kernel_rfl, by kernel_rfl⟩
def sQ_lnx : List Dt → Prop
  | [.z x0, .l x1, .z x2] => let f (pr : Prog) (i : Int) : Prop := pr.l.length ≤ maxLen; f ⟨x0, x1⟩ x2
  | _ => False
set_option maxRecDepth 100000 in
set_option maxHeartbeats 8000000 in
theorem sX_lnx (pr : Prog) (hpr : Prog.ok pr) (i : Int) (hi : inK .i64 i = true) (hp : sQ_lnx [.z pr.ctx, .l pr.l, .z i]) (ρ : Env) (g : varsD ρ 0 [.int .i64, .list [some .i8, some .i8, some .i8, some .i8, none, some .i8, some .i8, some .i64, some .i64], .int .i64] = [.z pr.ctx, .l pr.l, .z i]) : sT_lnx.asks sP_lnx (fun ρ e => e.D ρ = sF_lnx [.z pr.ctx, .l pr.l, .z i]) ρ fun _ _ => False := by
  simp only [sQ_lnx, b2i_one, Ins.eta, Prog.eta, insAt_mk] at hp
  simp only [varsD, varD, List.cons.injEq, Dt.z.injEq, Dt.l.injEq, b2i_eq_iff, Nat.reduceAdd, and_true] at g
  simp only [sT_lnx, sP_lnx, sF_icheck, sF_lnext, sV_icheck, sV_lnext, sF_lnx, sV_lnx, sQ_icheck, sQ_lnext, Tr.asks, upd_same, okDs, okD, eqs, E.I, E.B, E.L, E.R, E.D, E.vs, dI, dB, dL, varD, varsD, List.getElem?_cons_zero, List.getElem?_cons_succ, List.cons_append, List.nil_append, Nat.zero_add, Nat.add_zero, Nat.reduceAdd, and_true, true_and, b2i_one, -eq_self, Ins.eta, Prog.eta, insAt_mk, g]
  refine ⟨?_, ?_⟩
  · exact hp
  intro e; (try simp only [e, Ins.eta, Prog.eta, insAt_mk, -eq_self]); clear e
  refine ⟨fun c0 => ?_, fun c0 => ?_⟩
  refine ⟨fun c1 => ?_, fun c1 => ?_⟩
  · rw [lnx_0 (of_decide_eq_true c1)]; try rfl
  refine ⟨fun c2 => ?_, fun c2 => ?_⟩
  refine ⟨?_, ?_⟩
  · exact ⟨⟨Int.not_lt.1 (of_decide_eq_false c1), of_decide_eq_true c2⟩, hp⟩
  intro e; (try simp only [e, Ins.eta, Prog.eta, insAt_mk, -eq_self]); clear e
  · rw [lnx_y (eqI c0) (Int.not_lt.1 (of_decide_eq_false c1)) (of_decide_eq_true c2)]; try rfl
  · rw [lnx_1 (of_decide_eq_false c2)]; try rfl
  · rw [lnx_e (neI c0)]; try rfl
theorem sK_lnx {sp : Spec} {key : Nat} (hF : sp.F key = sF_lnx) (hP : sp.pre key = sQ_lnx) : SmOk Try.prog sp (sM_lnx key) :=
  fun_ok (s := sM_lnx key) hF hP (by kernel_rfl) tysok_LiU (smc (sK_icheck rfl rfl) (smc (sK_lnext rfl rfl) sm0)) Try.func18 fn0 sR_lnx (.inr (fun xs h L hL => by unfold sQ_lnx at h; split at h <;> first | exact h.elim | (simp at hL; subst hL; exact h))) (fun x0 gx0 x1 gx1 x2 gx2 hp ρ g => sX_lnx ⟨x0, x1⟩ ⟨gx0, gx1⟩ x2 gx2 hp ρ g)
def sM_lwakes (key : Nat) : Sm := ⟨14, key, [], [.one .bool], false⟩
def sF_lwakes : List Dt → List Dt
  | [] => [.z (b2i true)]
  | _ => []
def sT_lwakes : Tr :=
(.call 0 ([.sl [some .i64] 3] ++ [.sl [some .i64] 3] ++ [.int .i64]) (.cons (.lit 0) (.consl (.lcat (.lapp .lnil (.cons (.lit 0) (.cons (.lit 11) (.cons (.lit 64) (.cons (.lit 0) (.consb (.tt true) (.cons (.lit 0) (.cons (.lit 1) (.cons (.lit 0) (.cons (.lit 0) .nil)))))))))) (.lapp .lnil (.cons (.lit 6) (.cons (.lit 0) (.cons (.lit 0) (.cons (.lit 0) (.consb (.tt false) (.cons (.lit 0) (.cons (.lit 0) (.cons (.lit 0) (.cons (.lit 0) .nil))))))))))) .nil)) 0
(.br (.eq (.var 2) (.lit 0))
(.br (.eq (.len (.lvar 0)) (.lit 2))
(.br (.eq (.len (.lvar 1)) (.lit 2))
(.br (.lt (.lit 0) (.len (.lvar 0)))
(.br (.eq (.get (.lvar 0) (.lit 0) 0) (.lit 2))
(.br (.lt (.lit 0) (.len (.lvar 1)))
(.br (.eq (.get (.lvar 1) (.lit 0) 0) (.lit 1))
(.br (.lt (.lit 1) (.len (.lvar 1)))
(.leaf (.consb (.eq (.get (.lvar 1) (.lit 1) 0) (.lit 0)) .nil))
.panic)
(.leaf (.consb (.tt false) .nil)))
.panic)
(.leaf (.consb (.tt false) .nil)))
.panic)
(.leaf (.consb (.tt false) .nil)))
(.leaf (.consb (.tt false) .nil)))
(.leaf (.consb (.tt false) .nil))))
def sP_lwakes : Spec := ⟨fun k => match k with | 0 => sF_lrun | _ => fun _ => [], fun k => match k with | 0 => sQ_lrun | _ => fun _ => True⟩
set_option maxRecDepth 100000 in
theorem sR_lwakes : treeIs tys_LiU [sM_lrun 0] [] [] [] 200 Try.f14 [] [.one .bool] false [] sT_lwakes := ⟨by kernel_rfl, by kernel_rfl, by kernel_rfl⟩
set_option maxRecDepth 100000 in
set_option maxHeartbeats 8000000 in
theorem sX_lwakes  (ρ : Env) (g : varsD ρ 0 [] = []) : sT_lwakes.asks sP_lwakes (fun ρ e => e.D ρ = sF_lwakes []) ρ fun _ _ => False := by
  simp only [sT_lwakes, sP_lwakes, sF_lrun, sV_lrun, sF_lwakes, sQ_lrun, Tr.asks, upd_same, okDs, okD, eqs, E.I, E.B, E.L, E.R, E.D, E.vs, dI, dB, dL, varD, varsD, List.getElem?_cons_zero, List.getElem?_cons_succ, List.cons_append, List.nil_append, Nat.zero_add, Nat.add_zero, Nat.reduceAdd, and_true, true_and, b2i_one, -eq_self, Ins.eta, Prog.eta, insAt_mk]
  refine ⟨?_, ?_⟩
  · decide
  intro e; have e : ρ.l 0 = [[2], [1]] ∧ ρ.l 1 = [[1], [0]] ∧ ρ.i 2 = 0 := ⟨e.1.trans (congrArg (fun z => z.1.1) lrun_wakes), e.2.1.trans (congrArg (fun z => z.1.2) lrun_wakes), e.2.2.trans (congrArg (fun z => z.2) lrun_wakes)⟩; (try simp only [e, Ins.eta, Prog.eta, insAt_mk, -eq_self]); clear e
  refine ⟨fun c0 => ?_, fun c0 => ?_⟩
  refine ⟨fun c1 => ?_, fun c1 => ?_⟩
  refine ⟨fun c2 => ?_, fun c2 => ?_⟩
  refine ⟨fun c3 => ?_, fun c3 => ?_⟩
  refine ⟨fun c4 => ?_, fun c4 => ?_⟩
  refine ⟨fun c5 => ?_, fun c5 => ?_⟩
  refine ⟨fun c6 => ?_, fun c6 => ?_⟩
  refine ⟨fun c7 => ?_, fun c7 => ?_⟩
  · rfl
  · cases c7
  · cases c6
  · cases c5
  · cases c4
  · cases c3
  · cases c2
  · cases c1
  · cases c0
theorem sK_lwakes {sp : Spec} {key : Nat} (hF : sp.F key = sF_lwakes) (hP : sp.pre key = fun _ => True := by rfl) : SmOk Try.prog sp (sM_lwakes key) :=
  fun_ok (s := sM_lwakes key) hF hP (by kernel_rfl) tysok_LiU (smc (sK_lrun rfl rfl) sm0) Try.func14 fn0 sR_lwakes (.inl rfl) (fun  hp ρ g => sX_lwakes ρ g)
end Go.Proofs.Ytmkaphfdgdkaoaa
