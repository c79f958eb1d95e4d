/- Contracts of live.Next and of the law LiveRules. -/
import Derived.Test.YtmkaphfdgdkaoaaLiF
import Derived.Test.YtmkaphfdgdkaoaaLiG
import Derived.Test.YtmkaphfdgdkaoaaLiQ
import Derived.Test.YtmkaphfdgdkaoaaProg
import Derived.Laws.Externs
set_option linter.unusedVariables false
set_option linter.unusedSimpArgs false
namespace Go.Proofs.Ytmkaphfdgdkaoaa
open Go.RowKit Go.ChangeShapes Go.WideShapes

def tys_LiH : List (Nat × TI) := [(3, ⟨false, 1, [.int .i64 (.lit 0)], [], none, some .i64, false, false, none, 8, false, none, false⟩),
 (4, ⟨false, 1, [.bool (.tt false)], [], none, none, false, true, none, 1, false, none, false⟩),
 (22, ⟨false, 1, [.nsl], [], none, none, false, false, some 33, 24, false, none, false⟩),
 (24, ⟨true, 2, [.int .i64 (.lit 0), .nsl], [(0, 3), (1, 22)], none, none, false, false, none, 32, false, none, false⟩),
 (27, ⟨false, 1, [.nsl], [], none, none, false, false, some 3, 24, false, none, false⟩),
 (28, ⟨false, 1, [.int .i64 (.lit 0)], [], none, some .i64, false, false, none, 8, false, none, false⟩),
 (31, ⟨false, 1, [.int .i8 (.lit 0)], [], none, some .i8, false, false, none, 1, false, none, false⟩),
 (33, ⟨true, 9, [.int .i8 (.lit 0), .int .i8 (.lit 0), .int .i8 (.lit 0), .int .i8 (.lit 0), .bool (.tt false), .int .i8 (.lit 0), .int .i8 (.lit 0), .int .i64 (.lit 0), .int .i64 (.lit 0)], [(0, 31), (1, 31), (2, 31), (3, 31), (4, 4), (5, 31), (6, 31), (7, 3), (8, 3)], none, none, true, false, none, 24, false, none, false⟩)]
set_option maxRecDepth 100000 in
theorem tysck_LiH : (tys_LiH.all fun p => ckTI Try.prog p.1 p.2) = true := by kernel_rfl
theorem tyseq_LiH : (tys_LiH.all fun p => !p.2.eqok || ((Nat.beq p.1 33 && kindsC p.2.zero z_Ins))) = true := by kernel_rfl
theorem tyskn_LiH : (tys_LiH.all fun p => !p.2.keyok) = true := by kernel_rfl
theorem tysok_LiH : ∀ t i, (t, i) ∈ tys_LiH → TIok Try.prog t i := by
  intro t i h
  refine TIok_of (all_at (f := ckTI Try.prog) tysck_LiH h) (fun he => ?_) (fun he => ?_) (fun he => ?_)
  · have h1 := List.all_eq_true.1 tyseq_LiH (t, i) h
    simp only [he, Bool.not_true, Bool.false_or, Bool.or_eq_true, Bool.and_eq_true] at h1
    have hs := h1.2
    obtain rfl := Nat.eq_of_beq_eq_true h1.1
    exact fun vs us hv hu => eq_Ins vs us (kindsV_of hs hv) (kindsV_of hs hu)
  · have h1 := List.all_eq_true.1 tyseq_LiH (t, i) h
    simp only [he, Bool.not_true, Bool.false_or, Bool.or_eq_true, Bool.and_eq_true] at h1
    have hs := h1.2
    obtain rfl := Nat.eq_of_beq_eq_true h1.1
    exact grd_Ins
  · have h1 := List.all_eq_true.1 tyskn_LiH (t, i) h
    simp [he] at h1
def sM_lgreat (key : Nat) : Sm := ⟨13, key, [.agg kProg], [.one .bool], false⟩
def sV_lgreat (pr : Prog) : List Dt := [.z (b2i (decide ((100 : Int) < (pr.l.length : Int))))]
def sF_lgreat : List Dt → List Dt
  | [.z x0, .l x1] => sV_lgreat ⟨x0, x1⟩
  | _ => []
def sT_lgreat : Tr :=
(.leaf (.consb (.lt (.lit 100) (.len (.lvar 1))) .nil))
def sP_lgreat : Spec := ⟨fun k => match k with | _ => fun _ => [], fun k => match k with | _ => fun _ => True⟩
set_option maxRecDepth 100000 in
theorem sR_lgreat : treeIs tys_LiH [] [] [] [] 200 Try.f13 [.agg kProg] [.one .bool] false [.int .i64, .list [some .i8, some .i8, some .i8, some .i8, none, some .i8, some .i8, some .i64, some .i64]] sT_lgreat := ⟨by kernel_rfl, by kernel_rfl, by kernel_rfl⟩
def sQ_lgreat : List Dt → Prop
  | [.z x0, .l x1] => let f (pr : Prog) : Prop := pr.l.length ≤ maxLen; f ⟨x0, x1⟩
  | _ => False
set_option maxRecDepth 100000 in
set_option maxHeartbeats 8000000 in
theorem sX_lgreat (pr : Prog) (hpr : Prog.ok pr) (hp : sQ_lgreat [.z pr.ctx, .l pr.l]) (ρ : Env) (g : varsD ρ 0 [.int .i64, .list [some .i8, some .i8, some .i8, some .i8, none, some .i8, some .i8, some .i64, some .i64]] = [.z pr.ctx, .l pr.l]) : sT_lgreat.asks sP_lgreat (fun ρ e => e.D ρ = sF_lgreat [.z pr.ctx, .l pr.l]) ρ fun _ _ => False := by
  simp only [sQ_lgreat, b2i_one, Ins.eta, Prog.eta, insAt_mk] at hp
  simp only [varsD, varD, List.cons.injEq, Dt.z.injEq, Dt.l.injEq, b2i_eq_iff, Nat.reduceAdd, and_true] at g
  simp only [sT_lgreat, sP_lgreat, sF_lgreat, sV_lgreat, Tr.asks, upd_same, okDs, okD, eqs, E.I, E.B, E.L, E.R, E.D, E.vs, dI, dB, dL, varD, varsD, List.getElem?_cons_zero, List.getElem?_cons_succ, List.cons_append, List.nil_append, Nat.zero_add, Nat.add_zero, Nat.reduceAdd, and_true, true_and, b2i_one, -eq_self, Ins.eta, Prog.eta, insAt_mk, g]
  · try rfl
theorem sK_lgreat {sp : Spec} {key : Nat} (hF : sp.F key = sF_lgreat) (hP : sp.pre key = sQ_lgreat) : SmOk Try.prog sp (sM_lgreat key) :=
  fun_ok (s := sM_lgreat key) hF hP (by kernel_rfl) tysok_LiH (sm0) Try.func13 fn0 sR_lgreat (.inr (fun xs h L hL => by unfold sQ_lgreat at h; split at h <;> first | exact h.elim | (simp at hL; subst hL; exact h))) (fun x0 gx0 x1 gx1 hp ρ g => sX_lgreat ⟨x0, x1⟩ ⟨gx0, gx1⟩ hp ρ g)
def sM_lnx (key : Nat) : Sm := ⟨18, key, [.agg kProg, .one (.int .i64)], [.one (.sl [some .i64] 3)], false⟩
def sV_lnx (pr : Prog) (i : Int) : List Dt := [.l (lnx pr i)]
def sF_lnx : List Dt → List Dt
  | [.z x0, .l x1, .z x2] => sV_lnx ⟨x0, x1⟩ x2
  | _ => []
def sT_lnx : Tr :=
(.call 0 ([.int .i64] ++ [.int .i64]) (.cons (.var 0) (.consl (.lvar 1) .nil)) 3
(.br (.eq (.var 4) (.lit 0))
(.br (.lt (.var 2) (.lit 0))
(.leaf (.consl .lnil .nil))
(.br (.lt (.var 2) (.len (.lvar 1)))
(.call 1 ([.sl [some .i64] 3]) (.cons (.var 0) (.consl (.lvar 1) (.cons (.var 2) .nil))) 5
(.leaf (.consl (.lvar 5) .nil)))
(.leaf (.consl .lnil .nil))))
(.leaf (.consl .lnil .nil))))
def sP_lnx : Spec := ⟨fun k => match k with | 0 => sF_icheck | 1 => sF_lnext | _ => fun _ => [], fun k => match k with | 0 => sQ_icheck | 1 => sQ_lnext | _ => fun _ => True⟩
set_option maxRecDepth 100000 in
theorem sR_lnx : treeIs tys_LiH [sM_icheck 0, sM_lnext 1] [] [] [] 200 Try.f18 [.agg kProg, .one (.int .i64)] [.one (.sl [some .i64] 3)] false [.int .i64, .list [some .i8, some .i8, some .i8, some .i8, none, some .i8, some .i8, some .i64, some .i64], .int .i64] sT_lnx := ⟨by kernel_rfl, by kernel_rfl, by kernel_rfl⟩
def sQ_lnx : List Dt → Prop
  | [.z x0, .l x1, .z x2] => let f (pr : Prog) (i : Int) : Prop := pr.l.length ≤ maxLen; f ⟨x0, x1⟩ x2
  | _ => False
set_option maxRecDepth 100000 in
set_option maxHeartbeats 8000000 in
theorem sX_lnx (pr : Prog) (hpr : Prog.ok pr) (i : Int) (hi : inK .i64 i = true) (hp : sQ_lnx [.z pr.ctx, .l pr.l, .z i]) (ρ : Env) (g : varsD ρ 0 [.int .i64, .list [some .i8, some .i8, some .i8, some .i8, none, some .i8, some .i8, some .i64, some .i64], .int .i64] = [.z pr.ctx, .l pr.l, .z i]) : sT_lnx.asks sP_lnx (fun ρ e => e.D ρ = sF_lnx [.z pr.ctx, .l pr.l, .z i]) ρ fun _ _ => False := by
  simp only [sQ_lnx, b2i_one, Ins.eta, Prog.eta, insAt_mk] at hp
  simp only [varsD, varD, List.cons.injEq, Dt.z.injEq, Dt.l.injEq, b2i_eq_iff, Nat.reduceAdd, and_true] at g
  simp only [sT_lnx, sP_lnx, sF_icheck, sF_lnext, sV_icheck, sV_lnext, sF_lnx, sV_lnx, sQ_icheck, sQ_lnext, Tr.asks, upd_same, okDs, okD, eqs, E.I, E.B, E.L, E.R, E.D, E.vs, dI, dB, dL, varD, varsD, List.getElem?_cons_zero, List.getElem?_cons_succ, List.cons_append, List.nil_append, Nat.zero_add, Nat.add_zero, Nat.reduceAdd, and_true, true_and, b2i_one, -eq_self, Ins.eta, Prog.eta, insAt_mk, g]
  refine ⟨?_, ?_⟩
  · exact hp
  intro e; (try simp only [e, Ins.eta, Prog.eta, insAt_mk, -eq_self]); clear e
  refine ⟨fun c0 => ?_, fun c0 => ?_⟩
  refine ⟨fun c1 => ?_, fun c1 => ?_⟩
  · rw [lnx_0 (of_decide_eq_true c1)]; try rfl
  refine ⟨fun c2 => ?_, fun c2 => ?_⟩
  refine ⟨?_, ?_⟩
  · exact ⟨⟨Int.not_lt.1 (of_decide_eq_false c1), of_decide_eq_true c2⟩, hp⟩
  intro e; (try simp only [e, Ins.eta, Prog.eta, insAt_mk, -eq_self]); clear e
  · rw [lnx_y (eqI c0) (Int.not_lt.1 (of_decide_eq_false c1)) (of_decide_eq_true c2)]; try rfl
  · rw [lnx_1 (of_decide_eq_false c2)]; try rfl
  · rw [lnx_e (neI c0)]; try rfl
theorem sK_lnx {sp : Spec} {key : Nat} (hF : sp.F key = sF_lnx) (hP : sp.pre key = sQ_lnx) : SmOk Try.prog sp (sM_lnx key) :=
  fun_ok (s := sM_lnx key) hF hP (by kernel_rfl) tysok_LiH (smc (sK_icheck rfl rfl) (smc (sK_lnext rfl rfl) sm0)) Try.func18 fn0 sR_lnx (.inr (fun xs h L hL => by unfold sQ_lnx at h; split at h <;> first | exact h.elim | (simp at hL; subst hL; exact h))) (fun x0 gx0 x1 gx1 x2 gx2 hp ρ g => sX_lnx ⟨x0, x1⟩ ⟨gx0, gx1⟩ x2 gx2 hp ρ g)
def sM_lwakes (key : Nat) : Sm := ⟨14, key, [], [.one .bool], false⟩
def sF_lwakes : List Dt → List Dt
  | [] => [.z (b2i true)]
  | _ => []
def sT_lwakes : Tr :=
(.call 0 ([.sl [some .i64] 3] ++ [.sl [some .i64] 3] ++ [.int .i64]) (.cons (.lit 0) (.consl (.lcat (.lapp .lnil (.cons (.lit 0) (.cons (.lit 11) (.cons (.lit 64) (.cons (.lit 0) (.consb (.tt true) (.cons (.lit 0) (.cons (.lit 1) (.cons (.lit 0) (.cons (.lit 0) .nil)))))))))) (.lapp .lnil (.cons (.lit 6) (.cons (.lit 0) (.cons (.lit 0) (.cons (.lit 0) (.consb (.tt false) (.cons (.lit 0) (.cons (.lit 0) (.cons (.lit 0) (.cons (.lit 0) .nil))))))))))) .nil)) 0
(.br (.eq (.var 2) (.lit 0))
(.br (.eq (.len (.lvar 0)) (.lit 2))
(.br (.eq (.len (.lvar 1)) (.lit 2))
(.br (.lt (.lit 0) (.len (.lvar 0)))
(.br (.eq (.get (.lvar 0) (.lit 0) 0) (.lit 2))
(.br (.lt (.lit 0) (.len (.lvar 1)))
(.br (.eq (.get (.lvar 1) (.lit 0) 0) (.lit 1))
(.br (.lt (.lit 1) (.len (.lvar 1)))
(.leaf (.consb (.eq (.get (.lvar 1) (.lit 1) 0) (.lit 0)) .nil))
.panic)
(.leaf (.consb (.tt false) .nil)))
.panic)
(.leaf (.consb (.tt false) .nil)))
.panic)
(.leaf (.consb (.tt false) .nil)))
(.leaf (.consb (.tt false) .nil)))
(.leaf (.consb (.tt false) .nil))))
def sP_lwakes : Spec := ⟨fun k => match k with | 0 => sF_lrun | _ => fun _ => [], fun k => match k with | 0 => sQ_lrun | _ => fun _ => True⟩
set_option maxRecDepth 100000 in
theorem sR_lwakes : treeIs tys_LiH [sM_lrun 0] [] [] [] 200 Try.f14 [] [.one .bool] false [] sT_lwakes := ⟨by kernel_rfl, by kernel_rfl, by kernel_rfl⟩
set_option maxRecDepth 100000 in
set_option maxHeartbeats 8000000 in
theorem sX_lwakes  (ρ : Env) (g : varsD ρ 0 [] = []) : sT_lwakes.asks sP_lwakes (fun ρ e => e.D ρ = sF_lwakes []) ρ fun _ _ => False := by
  simp only [sT_lwakes, sP_lwakes, sF_lrun, sV_lrun, sF_lwakes, sQ_lrun, Tr.asks, upd_same, okDs, okD, eqs, E.I, E.B, E.L, E.R, E.D, E.vs, dI, dB, dL, varD, varsD, List.getElem?_cons_zero, List.getElem?_cons_succ, List.cons_append, List.nil_append, Nat.zero_add, Nat.add_zero, Nat.reduceAdd, and_true, true_and, b2i_one, -eq_self, Ins.eta, Prog.eta, insAt_mk]
  refine ⟨?_, ?_⟩
  · decide
  intro e; have e : ρ.l 0 = [[2], [1]] ∧ ρ.l 1 = [[1], [0]] ∧ ρ.i 2 = 0 := ⟨e.1.trans (congrArg (fun z => z.1.1) lrun_wakes), e.2.1.trans (congrArg (fun z => z.1.2) lrun_wakes), e.2.2.trans (congrArg (fun z => z.2) lrun_wakes)⟩; (try simp only [e, Ins.eta, Prog.eta, insAt_mk, -eq_self]); clear e
  refine ⟨fun c0 => ?_, fun c0 => ?_⟩
  refine ⟨fun c1 => ?_, fun c1 => ?_⟩
  refine ⟨fun c2 => ?_, fun c2 => ?_⟩
  refine ⟨fun c3 => ?_, fun c3 => ?_⟩
  refine ⟨fun c4 => ?_, fun c4 => ?_⟩
  refine ⟨fun c5 => ?_, fun c5 => ?_⟩
  refine ⟨fun c6 => ?_, fun c6 => ?_⟩
  refine ⟨fun c7 => ?_, fun c7 => ?_⟩
  · rfl
  · cases c7
  · cases c6
  · cases c5
  · cases c4
  · cases c3
  · cases c2
  · cases c1
  · cases c0
theorem sK_lwakes {sp : Spec} {key : Nat} (hF : sp.F key = sF_lwakes) (hP : sp.pre key = fun _ => True := by rfl) : SmOk Try.prog sp (sM_lwakes key) :=
  fun_ok (s := sM_lwakes key) hF hP (by kernel_rfl) tysok_LiH (smc (sK_lrun rfl rfl) sm0) Try.func14 fn0 sR_lwakes (.inl rfl) (fun  hp ρ g => sX_lwakes ρ g)
def sM_lrules (key : Nat) : Sm := ⟨4, key, [.agg kProg], [.one .bool], false⟩
def sV_lrules (pr : Prog) : List Dt := [.z (b2i true)]
def sF_lrules : List Dt → List Dt
  | [.z x0, .l x1] => sV_lrules ⟨x0, x1⟩
  | _ => []
def sT_lrules : Tr :=
(.call 0 ([.bool]) (.cons (.var 0) (.consl (.lvar 1) .nil)) 2
(.br (.bvar 2)
(.call 6 ([.bool]) .nil 3
(.leaf (.consb (.bvar 3) .nil)))
(.call 2 ([.sl [some .i64] 3] ++ [.sl [some .i64] 3] ++ [.int .i64]) (.cons (.var 0) (.consl (.lvar 1) .nil)) 3
(.br (.eq (.var 5) (.lit 0))
(.br (.eq (.len (.lvar 3)) (.len (.lvar 1)))
(.br (.eq (.len (.lvar 4)) (.len (.lvar 1)))
(.loop 0 6 [.int .i64] (.cons (.lit 0) .nil)
(.br (.lt (.var 6) (.len (.lvar 1)))
(.br (.lt (.var 6) (.lit 0))
.panic
(.call 3 ([.sl [some .i64] 3]) (.cons (.var 0) (.consl (.lvar 1) (.cons (.var 6) .nil))) 7
(.loop 1 8 [.int .i64, .int .i64] (.cons (.lit 0) (.cons (.lit 0) .nil))
(.br (.lt (.var 8) (.len (.lvar 7)))
(.br (.lt (.var 8) (.lit 0))
.panic
(.br (.lt (.get (.lvar 7) (.var 8) 0) (.lit 0))
(.leaf (.consb (.tt false) .nil))
(.br (.lt (.get (.lvar 7) (.var 8) 0) (.len (.lvar 3)))
(.next 1 (.cons (.bin .add .i64 (.var 8) (.lit 1)) (.cons (.bin .or .i64 (.var 9) (.get (.lvar 3) (.get (.lvar 7) (.var 8) 0) 0)) .nil)))
(.leaf (.consb (.tt false) .nil)))))
(.br (.lt (.var 6) (.len (.lvar 4)))
(.br (.eq (.var 9) (.get (.lvar 4) (.var 6) 0))
(.br (.lt (.var 6) (.len (.lvar 3)))
(.call 5 ([.int .i64]) (.cons (.get (.lvar 1) (.var 6) 0) (.cons (.get (.lvar 1) (.var 6) 1) (.cons (.get (.lvar 1) (.var 6) 2) (.cons (.get (.lvar 1) (.var 6) 3) (.consb (.getb (.lvar 1) (.var 6) 4) (.cons (.get (.lvar 1) (.var 6) 5) (.cons (.get (.lvar 1) (.var 6) 6) (.cons (.get (.lvar 1) (.var 6) 7) (.cons (.get (.lvar 1) (.var 6) 8) .nil))))))))) 10
(.call 4 ([.int .i64]) (.cons (.get (.lvar 1) (.var 6) 0) (.cons (.get (.lvar 1) (.var 6) 1) (.cons (.get (.lvar 1) (.var 6) 2) (.cons (.get (.lvar 1) (.var 6) 3) (.consb (.getb (.lvar 1) (.var 6) 4) (.cons (.get (.lvar 1) (.var 6) 5) (.cons (.get (.lvar 1) (.var 6) 6) (.cons (.get (.lvar 1) (.var 6) 7) (.cons (.get (.lvar 1) (.var 6) 8) .nil))))))))) 11
(.br (.eq (.get (.lvar 3) (.var 6) 0) (.bin .or .i64 (.bin .andNot .i64 (.get (.lvar 4) (.var 6) 0) (.var 10)) (.var 11)))
(.next 0 (.cons (.bin .add .i64 (.var 6) (.lit 1)) .nil))
(.leaf (.consb (.tt false) .nil)))))
.panic)
(.leaf (.consb (.tt false) .nil)))
.panic)))))
(.call 6 ([.bool]) .nil 7
(.leaf (.consb (.bvar 7) .nil)))))
(.leaf (.consb (.tt false) .nil)))
(.leaf (.consb (.tt false) .nil)))
(.call 1 ([.int .i64] ++ [.int .i64]) (.cons (.var 0) (.consl (.lvar 1) .nil)) 6
(.br (.eq (.var 7) (.lit 0))
(.leaf (.consb (.tt false) .nil))
(.call 6 ([.bool]) .nil 8
(.leaf (.consb (.bvar 8) .nil)))))))))
def sP_lrules : Spec := ⟨fun k => match k with | 0 => sF_lgreat | 1 => sF_icheck | 2 => sF_lrun | 3 => sF_lnx | 4 => sF_vrd | 5 => sF_vwr | 6 => sF_lwakes | _ => fun _ => [], fun k => match k with | 0 => sQ_lgreat | 1 => sQ_icheck | 2 => sQ_lrun | 3 => sQ_lnx | _ => fun _ => True⟩
set_option maxRecDepth 100000 in
theorem sR_lrules : treeIs tys_LiH [sM_lgreat 0, sM_icheck 1, sM_lrun 2, sM_lnx 3, sM_vrd 4, sM_vwr 5, sM_lwakes 6] [] [(10, [.tmpI 51 .i64, .top 52, .top 53, .top 54, .top 55, .top 9, .top 8, .top 10, .top 56, .top 57, .top 58, .top 59, .top 60, .top 61, .top 62, .top 63, .top 12, .top 64, .top 65, .top 66, .top 67, .top 68, .top 69, .top 70, .top 71, .top 2, .top 72, .top 73, .top 74, .top 75, .top 76, .top 77, .top 78, .top 79, .top 80, .top 81, .top 82, .top 83, .top 84, .top 85, .top 86, .top 87, .top 88, .top 89, .top 90, .top 91, .top 92, .top 93, .top 94, .top 95, .top 96, .top 97, .top 98, .top 99, .top 100, .top 101, .top 102]), (14, [.tmpI 60 .i64, .tmpI 10 .i64, .top 61, .top 62, .top 63, .top 12, .top 64, .top 65, .top 66, .top 67, .top 68, .top 69, .top 70, .top 71, .top 2, .top 72, .top 73, .top 74, .top 75, .top 76, .top 77, .top 78])] [] 200 Try.f4 [.agg kProg] [.one .bool] false [.int .i64, .list [some .i8, some .i8, some .i8, some .i8, none, some .i8, some .i8, some .i64, some .i64]] sT_lrules := ⟨by kernel_rfl, by kernel_rfl, by kernel_rfl⟩
set_option maxRecDepth 100000 in
set_option maxHeartbeats 8000000 in
theorem sX_lrules (pr : Prog) (hpr : Prog.ok pr) (ρ : Env) (g : varsD ρ 0 [.int .i64, .list [some .i8, some .i8, some .i8, some .i8, none, some .i8, some .i8, some .i64, some .i64]] = [.z pr.ctx, .l pr.l]) : sT_lrules.asks sP_lrules (fun ρ e => e.D ρ = sF_lrules [.z pr.ctx, .l pr.l]) ρ fun _ _ => False := by
  have keepg := g
  simp only [varsD, varD, List.cons.injEq, Dt.z.injEq, Dt.l.injEq, b2i_eq_iff, Nat.reduceAdd, and_true] at g
  simp only [sT_lrules, sP_lrules, sF_lgreat, sF_icheck, sF_lrun, sF_lnx, sF_vrd, sF_vwr, sF_lwakes, sV_lgreat, sV_icheck, sV_lrun, sV_lnx, sV_vrd, sV_vwr, sF_lrules, sV_lrules, sQ_lgreat, sQ_icheck, sQ_lrun, sQ_lnx, Tr.asks, upd_same, okDs, okD, eqs, E.I, E.B, E.L, E.R, E.D, E.vs, dI, dB, dL, varD, varsD, List.getElem?_cons_zero, List.getElem?_cons_succ, List.cons_append, List.nil_append, Nat.zero_add, Nat.add_zero, Nat.reduceAdd, and_true, true_and, b2i_one, -eq_self, Ins.eta, Prog.eta, insAt_mk, g]
  obtain ⟨k0_i0, k0_l1⟩ := g
  refine ⟨?_, ?_⟩
  · exact hpr.2.len
  intro e; (try simp only [e, Ins.eta, Prog.eta, insAt_mk, -eq_self]); clear e
  refine ⟨fun c0 => ?_, fun c0 => ?_⟩
  intro e; (try simp only [e, Ins.eta, Prog.eta, insAt_mk, -eq_self]); clear e
  · rfl
  refine ⟨?_, ?_⟩
  · exact hpr.2.len
  intro e; have k0_l3 := e.1; have k0_l4 := e.2.1; (try simp only [e, Ins.eta, Prog.eta, insAt_mk, -eq_self]); clear e
  refine ⟨fun c1 => ?_, fun c1 => ?_⟩
  refine ⟨fun c2 => ?_, fun c2 => ?_⟩
  refine ⟨fun c3 => ?_, fun c3 => ?_⟩
  have hp : pr.l.length ≤ maxLen := hpr.2.len
  have hok : (icheck pr).2 = 0 := (lrun_e pr).symm.trans (eqI c1)
  have hF := lrun_fix hp hok
  rw [lrun_l hok] at k0_l3 k0_l4
  refine ⟨fun ds => ∃ (i : Nat), ds = [.z (i : Int)] ∧ i ≤ pr.l.length, fun ds => pr.l.length - (dI ds 0).toNat, ⟨0, rfl, Nat.zero_le _⟩, ?_⟩
  intro ρ1 ha1 _ hi1
  obtain ⟨i, k1_i6, hi⟩ := hi1
  simp only [List.cons.injEq, Dt.z.injEq, and_true] at k1_i6
  have k1_i0 : ρ1.i 0 = _ := (ha1 0 (by decide)).1.symm.trans k0_i0
  have k1_l1 : ρ1.l 1 = _ := (ha1 1 (by decide)).2.2.symm.trans k0_l1
  have k1_l3 : ρ1.l 3 = _ := (ha1 3 (by decide)).2.2.symm.trans k0_l3
  have k1_l4 : ρ1.l 4 = _ := (ha1 4 (by decide)).2.2.symm.trans k0_l4
  simp only [k1_i0, k1_l1, k1_l3, k1_l4, k1_i6, insAt_mk, -eq_self]
  refine ⟨fun c4 => ?_, fun c4 => ?_⟩
  refine ⟨fun c5 => ?_, fun c5 => ?_⟩
  · exact absurd (of_decide_eq_true c5) (by omega)
  refine ⟨?_, ?_⟩
  · exact hpr.2.len
  intro e; have k1_l7 : ρ1.l 7 = lnx pr (i : Int) := e; (try simp only [e, Ins.eta, Prog.eta, insAt_mk, -eq_self]); clear e
  have hi2 : i < pr.l.length := Int.ofNat_lt.1 (of_decide_eq_true c4)
  rw [lnx_y hok (Int.natCast_nonneg i) (Int.ofNat_lt.2 hi2)] at k1_l7
  have hn3 : (lnext pr (i : Int)).length = (nx pr i).length := by unfold nx; simp
  have hn2 : (lnext pr (i : Int)).length ≤ 2 := hn3 ▸ (lnext_ok hp hok hi2).2.1
  refine ⟨fun ds => ∃ (j : Nat), ds = [.z (j : Int), .z (orB (lrunB pr).1 ((nx pr i).take j) 0).toInt] ∧ j ≤ (lnext pr (i : Int)).length, fun ds => (lnext pr (i : Int)).length - (dI ds 0).toNat, ⟨0, rfl, Nat.zero_le _⟩, ?_⟩
  intro ρ2 ha2 _ hi3
  obtain ⟨j, hds, hj⟩ := hi3
  simp only [List.cons.injEq, Dt.z.injEq, Dt.l.injEq, b2i_eq_iff, and_true] at hds
  obtain ⟨k2_i8, k2_i9⟩ := hds
  have k2_i0 : ρ2.i 0 = _ := (ha2 0 (by decide)).1.symm.trans k1_i0
  have k2_l1 : ρ2.l 1 = _ := (ha2 1 (by decide)).2.2.symm.trans k1_l1
  have k2_l3 : ρ2.l 3 = _ := (ha2 3 (by decide)).2.2.symm.trans k1_l3
  have k2_l4 : ρ2.l 4 = _ := (ha2 4 (by decide)).2.2.symm.trans k1_l4
  have k2_i6 : ρ2.i 6 = _ := (ha2 6 (by decide)).1.symm.trans k1_i6
  have k2_l7 : ρ2.l 7 = _ := (ha2 7 (by decide)).2.2.symm.trans k1_l7
  simp only [k2_i0, k2_l1, k2_l3, k2_l4, k2_i6, k2_l7, k2_i8, k2_i9, insAt_mk, -eq_self]
  refine ⟨fun c6 => ?_, fun c6 => ?_⟩
  refine ⟨fun c7 => ?_, fun c7 => ?_⟩
  · exact absurd (of_decide_eq_true c7) (by omega)
  refine ⟨fun c8 => ?_, fun c8 => ?_⟩
  · have hj2 := Int.ofNat_lt.1 (of_decide_eq_true c6)
    obtain ⟨x, y1, y2, y3⟩ := lnext_at hp hok hi2 hj2
    rw [y2] at c8
    exact absurd (of_decide_eq_true c8) (by omega)
  refine ⟨fun c9 => ?_, fun c9 => ?_⟩
  · have hj2 := Int.ofNat_lt.1 (of_decide_eq_true c6)
    obtain ⟨x, y1, y2, y3⟩ := lnext_at hp hok hi2 hj2
    rw [y2, behind y1 (hF.li ▸ y3)]
    exact ⟨⟨j + 1, (by rw [addN hj2 (Nat.le_trans hn2 (by decide))]; try rfl), hj2⟩, by rw [addN hj2 (Nat.le_trans hn2 (by decide))]; show (lnext pr (i : Int)).length - (((j + 1 : Nat) : Int)).toNat < (lnext pr (i : Int)).length - ((j : Int)).toNat; omega⟩
  · have hj2 := Int.ofNat_lt.1 (of_decide_eq_true c6)
    obtain ⟨x, y1, y2, y3⟩ := lnext_at hp hok hi2 hj2
    rw [y2, rows_len, hF.li] at c9
    exact absurd (of_decide_eq_false c9) (by omega)
  refine ⟨fun c10 => ?_, fun c10 => ?_⟩
  refine ⟨fun c11 => ?_, fun c11 => ?_⟩
  refine ⟨fun c12 => ?_, fun c12 => ?_⟩
  intro e; (try simp only [e, Ins.eta, Prog.eta, insAt_mk, -eq_self]); clear e
  intro e; (try simp only [e, Ins.eta, Prog.eta, insAt_mk, -eq_self]); clear e
  refine ⟨fun c13 => ?_, fun c13 => ?_⟩
  · show _ ∧ _
    exact ⟨⟨i + 1, (by rw [addN hi2 hp]; try rfl), hi2⟩, by rw [addN hi2 hp]; show pr.l.length - (((i + 1 : Nat) : Int)).toNat < pr.l.length - ((i : Int)).toNat; omega⟩
  · exact absurd (hF.gI hi2) (neI c13)
  · rw [rows_len, hF.li] at c12
    exact absurd (of_decide_eq_false c12) (by omega)
  · have hjl : j = (nx pr i).length := by have := of_decide_eq_false c6; omega
    rw [hjl, List.take_length] at c11
    exact absurd (hF.gO hi2).symm (neI c11)
  · rw [rows_len, hF.lo] at c10
    exact absurd (of_decide_eq_false c10) (by omega)
  intro e; (try simp only [e, Ins.eta, Prog.eta, insAt_mk, -eq_self]); clear e
  · rfl
  · have hp : pr.l.length ≤ maxLen := hpr.2.len
    have hok : (icheck pr).2 = 0 := (lrun_e pr).symm.trans (eqI c1)
    have hF := lrun_fix hp hok
    have q := lrun_l hok
    rw [q] at c3
    exact absurd (by rw [rows_len]; exact congrArg Int.ofNat hF.lo) (neI c3)
  · have hp : pr.l.length ≤ maxLen := hpr.2.len
    have hok : (icheck pr).2 = 0 := (lrun_e pr).symm.trans (eqI c1)
    have hF := lrun_fix hp hok
    have q := lrun_l hok
    rw [q] at c2
    exact absurd (by rw [rows_len]; exact congrArg Int.ofNat hF.li) (neI c2)
  refine ⟨?_, ?_⟩
  · exact hpr.2.len
  intro e; (try simp only [e, Ins.eta, Prog.eta, insAt_mk, -eq_self]); clear e
  refine ⟨fun c14 => ?_, fun c14 => ?_⟩
  · exact absurd ((lrun_e pr).trans (eqI c14)) (neI c1)
  intro e; (try simp only [e, Ins.eta, Prog.eta, insAt_mk, -eq_self]); clear e
  · rfl
theorem sC_lrules (xs : List Dt) (vals : List Value) (w : World) (hw : shRel w [.agg kProg] xs vals) : Calls Try.prog 4 vals.toArray w fun e w' => ∃ v, e = .returned v ∧ RetOk [.one .bool] false w w' (sF_lrules xs) v :=
  (fun_calls (by kernel_rfl) tysok_LiH (smc (sK_lgreat rfl rfl) (smc (sK_icheck rfl rfl) (smc (sK_lrun rfl rfl) (smc (sK_lnx rfl rfl) (smc (sK_vrd rfl) (smc (sK_vwr rfl) (smc (sK_lwakes rfl) sm0))))))) Try.func4 fn0 sR_lrules (pre := fun _ => True) (fun x0 gx0 x1 gx1 hp ρ g => sX_lrules ⟨x0, x1⟩ ⟨gx0, gx1⟩ ρ g) xs vals w hw trivial).2
set_option maxRecDepth 100000 in
set_option maxHeartbeats 8000000 in
theorem law_LiveRules {H : Type} {enc : TypeId × Value → H} {W : World} {r : Reach} {b0 : Nat} (v0 : Value) (k0 : Value.okWide Try.prog W r b0 24 v0) (d0 : DataW H) (p0 : List MemPlace) (h0 : DataW.Trod enc Try.prog W 0 (fun _ => true) true 24 v0 d0 p0) (_ : ∀ x ∈ p0, x.block < W.heap.size) :
    Calls Try.prog 4 #[v0] W fun e W' => e = .returned (.bool true) ∧ Below W.heap.size W W' := by
  obtain ⟨a0, q0, s0, rfl, w0, n0, m0, o0, l0⟩ := Prog.of_arg k0 h0
  refine (sC_lrules (.z a0 :: ( .l q0 :: ([]))) _ W ⟨_, _, _, rfl, ⟨_, _, _, rfl, ⟨_, rfl, rfl, w0⟩, ⟨_, _, _, rfl, ⟨_, _, rfl, rfl, n0, m0, o0, l0⟩, ⟨rfl, rfl⟩⟩⟩, ⟨rfl, rfl⟩⟩).mono fun e W' ⟨v, he, hr⟩ => ?_
  have hv : v = .bool true := RetOk.says hr
  rw [he, hv]
  exact ⟨rfl, hr.ext⟩
end Go.Proofs.Ytmkaphfdgdkaoaa
