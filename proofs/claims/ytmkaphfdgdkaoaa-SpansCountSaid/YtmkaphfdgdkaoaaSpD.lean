/- Contract of latheref20.Same and of what the laws are awake by; the law SpansRun. -/
import Derived.Test.YtmkaphfdgdkaoaaSpC
import Derived.Test.YtmkaphfdgdkaoaaLiQ
import Derived.Test.YtmkaphfdgdkaoaaProg
import Derived.Laws.Externs
set_option linter.unusedVariables false
set_option linter.unusedSimpArgs false
namespace Go.Proofs.Ytmkaphfdgdkaoaa
open Go.RowKit Go.ChangeShapes Go.WideShapes

def tys_SpD : List (Nat × TI) := [(3, ⟨false, 1, [.int .i64 (.lit 0)], [], none, some .i64, false, false, none, 8, false, none, false⟩),
 (4, ⟨false, 1, [.bool (.tt false)], [], none, none, false, true, none, 1, false, none, false⟩),
 (22, ⟨false, 1, [.nsl], [], none, none, false, false, some 33, 24, false, none, false⟩),
 (24, ⟨true, 2, [.int .i64 (.lit 0), .nsl], [(0, 3), (1, 22)], none, none, false, false, none, 32, false, none, false⟩),
 (28, ⟨false, 1, [.int .i64 (.lit 0)], [], none, some .i64, false, false, none, 8, false, none, false⟩),
 (31, ⟨false, 1, [.int .i8 (.lit 0)], [], none, some .i8, false, false, none, 1, false, none, false⟩),
 (33, ⟨true, 9, [.int .i8 (.lit 0), .int .i8 (.lit 0), .int .i8 (.lit 0), .int .i8 (.lit 0), .bool (.tt false), .int .i8 (.lit 0), .int .i8 (.lit 0), .int .i64 (.lit 0), .int .i64 (.lit 0)], [(0, 31), (1, 31), (2, 31), (3, 31), (4, 4), (5, 31), (6, 31), (7, 3), (8, 3)], none, none, true, false, none, 24, false, none, false⟩),
 (42, ⟨false, 1, [.nsl], [], none, none, false, false, some 47, 24, false, none, false⟩),
 (47, ⟨true, 4, [.int .i64 (.lit 0), .int .i64 (.lit 0), .int .i64 (.lit 0), .bool (.tt false)], [(0, 3), (1, 3), (2, 3), (3, 4)], none, none, true, false, none, 32, false, none, false⟩)]
set_option maxRecDepth 100000 in
theorem tysck_SpD : (tys_SpD.all fun p => ckTI Try.prog p.1 p.2) = true := by kernel_rfl
theorem tyseq_SpD : (tys_SpD.all fun p => !p.2.eqok || ((Nat.beq p.1 33 && kindsC p.2.zero z_Ins) || (Nat.beq p.1 47 && kindsC p.2.zero z_Span))) = true := by kernel_rfl
theorem tyskn_SpD : (tys_SpD.all fun p => !p.2.keyok) = true := by kernel_rfl
theorem tysok_SpD : ∀ t i, (t, i) ∈ tys_SpD → TIok Try.prog t i := by
  intro t i h
  refine TIok_of (all_at (f := ckTI Try.prog) tysck_SpD h) (fun he => ?_) (fun he => ?_) (fun he => ?_)
  · have h1 := List.all_eq_true.1 tyseq_SpD (t, i) h
    simp only [he, Bool.not_true, Bool.false_or, Bool.or_eq_true, Bool.and_eq_true] at h1
    rcases h1 with h1 | h1
    · have hs := h1.2
      obtain rfl := Nat.eq_of_beq_eq_true h1.1
      exact fun vs us hv hu => eq_Ins vs us (kindsV_of hs hv) (kindsV_of hs hu)
    · have hs := h1.2
      obtain rfl := Nat.eq_of_beq_eq_true h1.1
      exact fun vs us hv hu => eq_Span vs us (kindsV_of hs hv) (kindsV_of hs hu)
  · have h1 := List.all_eq_true.1 tyseq_SpD (t, i) h
    simp only [he, Bool.not_true, Bool.false_or, Bool.or_eq_true, Bool.and_eq_true] at h1
    rcases h1 with h1 | h1
    · have hs := h1.2
      obtain rfl := Nat.eq_of_beq_eq_true h1.1
      exact grd_Ins
    · have hs := h1.2
      obtain rfl := Nat.eq_of_beq_eq_true h1.1
      exact grd_Span
  · have h1 := List.all_eq_true.1 tyskn_SpD (t, i) h
    simp [he] at h1
def sM_ssame (key : Nat) : Sm := ⟨30, key, [.one (.sl [some .i64, some .i64, some .i64, none] 47), .one (.sl [some .i64, some .i64, some .i64, none] 47)], [.one .bool], false⟩
def sV_ssame (a : List (List Int)) (b : List (List Int)) : List Dt := [.z (b2i (decide (a = b)))]
def sF_ssame : List Dt → List Dt
  | [.l x0, .l x1] => sV_ssame x0 x1
  | _ => []
def sT_ssame : Tr :=
(.br (.eq (.len (.lvar 0)) (.len (.lvar 1)))
(.loop 0 2 [.int .i64] (.cons (.lit 0) .nil)
(.br (.lt (.var 2) (.len (.lvar 0)))
(.br (.lt (.var 2) (.lit 0))
.panic
(.br (.lt (.var 2) (.len (.lvar 1)))
(.br (.eq (.get (.lvar 0) (.var 2) 0) (.get (.lvar 1) (.var 2) 0))
(.br (.eq (.get (.lvar 0) (.var 2) 1) (.get (.lvar 1) (.var 2) 1))
(.br (.eq (.get (.lvar 0) (.var 2) 2) (.get (.lvar 1) (.var 2) 2))
(.br (.beq (.getb (.lvar 0) (.var 2) 3) (.getb (.lvar 1) (.var 2) 3))
(.next 0 (.cons (.bin .add .i64 (.var 2) (.lit 1)) .nil))
(.leaf (.consb (.tt false) .nil)))
(.leaf (.consb (.tt false) .nil)))
(.leaf (.consb (.tt false) .nil)))
(.leaf (.consb (.tt false) .nil)))
.panic))
(.leaf (.consb (.tt true) .nil))))
(.leaf (.consb (.tt false) .nil)))
def sP_ssame : Spec := ⟨fun k => match k with | _ => fun _ => [], fun k => match k with | _ => fun _ => True⟩
set_option maxRecDepth 100000 in
theorem sR_ssame : treeIs tys_SpD [] [] [(4, [.tmpI 5 .i64, .top 11, .top 12, .top 13, .top 14, .top 17, .top 18, .top 19, .top 20, .top 21, .top 22, .top 23, .top 24, .top 25, .top 4, .top 15, .top 16])] [] 200 Try.f30 [.one (.sl [some .i64, some .i64, some .i64, none] 47), .one (.sl [some .i64, some .i64, some .i64, none] 47)] [.one .bool] false [.list [some .i64, some .i64, some .i64, none], .list [some .i64, some .i64, some .i64, none]] sT_ssame := ⟨by kernel_rfl, by kernel_rfl, by kernel_rfl⟩
def sQ_ssame : List Dt → Prop
  | [.l x0, .l x1] => let f (a : List (List Int)) (b : List (List Int)) : Prop := (a.length ≤ maxLen ∧ b.length ≤ maxLen); f x0 x1
  | _ => False
set_option maxRecDepth 100000 in
set_option maxHeartbeats 8000000 in
theorem sX_ssame (a : List (List Int)) (ha : RowsIn [some .i64, some .i64, some .i64, none] a) (b : List (List Int)) (hb : RowsIn [some .i64, some .i64, some .i64, none] b) (hp : sQ_ssame [.l a, .l b]) (ρ : Env) (g : varsD ρ 0 [.list [some .i64, some .i64, some .i64, none], .list [some .i64, some .i64, some .i64, none]] = [.l a, .l b]) : sT_ssame.asks sP_ssame (fun ρ e => e.D ρ = sF_ssame [.l a, .l b]) ρ fun _ _ => False := by
  simp only [sQ_ssame, b2i_one, Ins.eta, Prog.eta, insAt_mk, Span.eta, spanAt_mk] at hp
  have keepg := g
  simp only [varsD, varD, List.cons.injEq, Dt.z.injEq, Dt.l.injEq, b2i_eq_iff, Nat.reduceAdd, and_true] at g
  simp only [sT_ssame, sP_ssame, sF_ssame, sV_ssame, Tr.asks, upd_same, okDs, okD, eqs, E.I, E.B, E.L, E.R, E.D, E.vs, dI, dB, dL, varD, varsD, List.getElem?_cons_zero, List.getElem?_cons_succ, List.cons_append, List.nil_append, Nat.zero_add, Nat.add_zero, Nat.reduceAdd, and_true, true_and, b2i_one, -eq_self, Ins.eta, Prog.eta, insAt_mk, Span.eta, spanAt_mk, g]
  obtain ⟨k0_l0, k0_l1⟩ := g
  refine ⟨fun c0 => ?_, fun c0 => ?_⟩
  have hab : a.length = b.length := Int.ofNat.inj (eqI c0)
  refine ⟨fun ds => ∃ j : Nat, ds = [.z (j : Int)] ∧ j ≤ a.length ∧ a.take j = b.take j, fun ds => a.length - (dI ds 0).toNat, ⟨0, rfl, Nat.zero_le _, rfl⟩, ?_⟩
  intro ρ1 ha1 _ hi1
  obtain ⟨j, k1_i2, hj, hn⟩ := hi1
  simp only [List.cons.injEq, Dt.z.injEq, and_true] at k1_i2
  have k1_l0 : ρ1.l 0 = _ := (ha1 0 (by decide)).2.2.symm.trans k0_l0
  have k1_l1 : ρ1.l 1 = _ := (ha1 1 (by decide)).2.2.symm.trans k0_l1
  simp only [k1_l0, k1_l1, k1_i2, insAt_mk, -eq_self]
  refine ⟨fun c1 => ?_, fun c1 => ?_⟩
  refine ⟨fun c2 => ?_, fun c2 => ?_⟩
  · exact absurd (of_decide_eq_true c2) (by omega)
  refine ⟨fun c3 => ?_, fun c3 => ?_⟩
  refine ⟨fun c4 => ?_, fun c4 => ?_⟩
  refine ⟨fun c5 => ?_, fun c5 => ?_⟩
  refine ⟨fun c6 => ?_, fun c6 => ?_⟩
  refine ⟨fun c7 => ?_, fun c7 => ?_⟩
  · have hj2 := Int.ofNat_lt.1 (of_decide_eq_true c1)
    rw [addN hj2 hp.1]
    exact ⟨⟨j + 1, rfl, hj2, take_step4 ha hb hn hj2 (hab ▸ hj2) (eqI c4) (eqI c5) (eqI c6) (eq_of_beq c7)⟩, by show a.length - (((j + 1 : Nat) : Int)).toNat < a.length - ((j : Int)).toNat; omega⟩
  · rw [decide_eq_false (fun h => by rw [h] at c7; simp at c7)]; try rfl
  · rw [decide_eq_false (fun h => neI c6 (by rw [h]))]; try rfl
  · rw [decide_eq_false (fun h => neI c5 (by rw [h]))]; try rfl
  · rw [decide_eq_false (fun h => neI c4 (by rw [h]))]; try rfl
  · have hj2 := Int.ofNat_lt.1 (of_decide_eq_true c1)
    exact absurd (of_decide_eq_false c3) (by omega)
  · rw [decide_eq_true (take_all hn (fun h => of_decide_eq_false c1 (Int.ofNat_lt.2 h)) hab)]; try rfl
  · rw [decide_eq_false (fun h => neI c0 (by rw [h]))]; try rfl
theorem sK_ssame {sp : Spec} {key : Nat} (hF : sp.F key = sF_ssame) (hP : sp.pre key = sQ_ssame) : SmOk Try.prog sp (sM_ssame key) :=
  fun_ok (s := sM_ssame key) hF hP (by kernel_rfl) tysok_SpD (sm0) Try.func30 fn0 sR_ssame (.inr (fun xs h L hL => by unfold sQ_ssame at h; split at h <;> first | exact h.elim | (simp at hL; rcases hL with rfl | rfl; exact h.1; exact h.2))) (fun x0 gx0 x1 gx1 hp ρ g => sX_ssame x0 gx0 x1 gx1 hp ρ g)
def sM_swakes (key : Nat) : Sm := ⟨27, key, [], [.one .bool], false⟩
def sF_swakes : List Dt → List Dt
  | [] => [.z (b2i true)]
  | _ => []
def sT_swakes : Tr :=
(.call 0 ([.sl [some .i64, some .i64, some .i64, none] 47] ++ [.int .i64]) (.cons (.lit 0) (.consl (.lcat (.lapp .lnil (.cons (.lit 0) (.cons (.lit 11) (.cons (.lit 64) (.cons (.lit 0) (.consb (.tt true) (.cons (.lit 0) (.cons (.lit 1) (.cons (.lit 0) (.cons (.lit 0) .nil)))))))))) (.lapp .lnil (.cons (.lit 6) (.cons (.lit 0) (.cons (.lit 0) (.cons (.lit 0) (.consb (.tt false) (.cons (.lit 0) (.cons (.lit 0) (.cons (.lit 0) (.cons (.lit 0) .nil))))))))))) .nil)) 0
(.br (.eq (.var 1) (.lit 0))
(.br (.eq (.len (.lvar 0)) (.lit 2))
(.br (.lt (.lit 0) (.len (.lvar 0)))
(.br (.eq (.get (.lvar 0) (.lit 0) 0) (.lit 0))
(.br (.eq (.get (.lvar 0) (.lit 0) 1) (.lit 0))
(.br (.eq (.get (.lvar 0) (.lit 0) 2) (.lit 1))
(.br (.getb (.lvar 0) (.lit 0) 3)
(.leaf (.consb (.tt false) .nil))
(.br (.lt (.lit 1) (.len (.lvar 0)))
(.leaf (.consb (.and (.eq (.get (.lvar 0) (.lit 1) 0) (.lit 1)) (.and (.eq (.get (.lvar 0) (.lit 1) 1) (.lit 0)) (.and (.eq (.get (.lvar 0) (.lit 1) 2) (.lit 0)) (.and (.not (.getb (.lvar 0) (.lit 1) 3)) (.tt true))))) .nil))
.panic))
(.leaf (.consb (.tt false) .nil)))
(.leaf (.consb (.tt false) .nil)))
(.leaf (.consb (.tt false) .nil)))
.panic)
(.leaf (.consb (.tt false) .nil)))
(.leaf (.consb (.tt false) .nil))))
def sP_swakes : Spec := ⟨fun k => match k with | 0 => sF_srun | _ => fun _ => [], fun k => match k with | 0 => sQ_srun | _ => fun _ => True⟩
set_option maxRecDepth 100000 in
theorem sR_swakes : treeIs tys_SpD [sM_srun 0] [] [] [] 200 Try.f27 [] [.one .bool] false [] sT_swakes := ⟨by kernel_rfl, by kernel_rfl, by kernel_rfl⟩
set_option maxRecDepth 100000 in
set_option maxHeartbeats 8000000 in
theorem sX_swakes  (ρ : Env) (g : varsD ρ 0 [] = []) : sT_swakes.asks sP_swakes (fun ρ e => e.D ρ = sF_swakes []) ρ fun _ _ => False := by
  simp only [sT_swakes, sP_swakes, sF_srun, sV_srun, sF_swakes, sQ_srun, Tr.asks, upd_same, okDs, okD, eqs, E.I, E.B, E.L, E.R, E.D, E.vs, dI, dB, dL, varD, varsD, List.getElem?_cons_zero, List.getElem?_cons_succ, List.cons_append, List.nil_append, Nat.zero_add, Nat.add_zero, Nat.reduceAdd, and_true, true_and, b2i_one, -eq_self, Ins.eta, Prog.eta, insAt_mk, Span.eta, spanAt_mk]
  refine ⟨?_, ?_⟩
  · decide
  intro e; have e : ρ.l 0 = [[0, 0, 1, 0], [1, 0, 0, 0]] ∧ ρ.i 1 = 0 := ⟨e.1.trans (congrArg (fun z => z.1) srun_wakes), e.2.trans (congrArg (fun z => z.2) srun_wakes)⟩; (try simp only [e, Ins.eta, Prog.eta, insAt_mk, Span.eta, spanAt_mk, -eq_self]); clear e
  refine ⟨fun c0 => ?_, fun c0 => ?_⟩
  refine ⟨fun c1 => ?_, fun c1 => ?_⟩
  refine ⟨fun c2 => ?_, fun c2 => ?_⟩
  refine ⟨fun c3 => ?_, fun c3 => ?_⟩
  refine ⟨fun c4 => ?_, fun c4 => ?_⟩
  refine ⟨fun c5 => ?_, fun c5 => ?_⟩
  refine ⟨fun c6 => ?_, fun c6 => ?_⟩
  · first | rfl | cases c6
  refine ⟨fun c7 => ?_, fun c7 => ?_⟩
  · first | rfl | cases c7
  · cases c7
  · first | rfl | cases c5
  · first | rfl | cases c4
  · first | rfl | cases c3
  · cases c2
  · first | rfl | cases c1
  · first | rfl | cases c0
theorem sK_swakes {sp : Spec} {key : Nat} (hF : sp.F key = sF_swakes) (hP : sp.pre key = fun _ => True := by rfl) : SmOk Try.prog sp (sM_swakes key) :=
  fun_ok (s := sM_swakes key) hF hP (by kernel_rfl) tysok_SpD (smc (sK_srun rfl rfl) sm0) Try.func27 fn0 sR_swakes (.inl rfl) (fun  hp ρ g => sX_swakes ρ g)
def sM_lsrun (key : Nat) : Sm := ⟨6, key, [.agg kProg], [.one .bool], false⟩
def sV_lsrun (pr : Prog) : List Dt := [.z (b2i true)]
def sF_lsrun : List Dt → List Dt
  | [.z x0, .l x1] => sV_lsrun ⟨x0, x1⟩
  | _ => []
def sT_lsrun : Tr :=
(.br (.lt (.lit 100) (.len (.lvar 1)))
(.call 3 ([.bool]) .nil 2
(.leaf (.consb (.bvar 2) .nil)))
(.call 0 ([.sl [some .i64, some .i64, some .i64, none] 47] ++ [.int .i64]) (.cons (.var 0) (.consl (.lvar 1) .nil)) 2
(.call 1 ([.sl [some .i64, some .i64, some .i64, none] 47] ++ [.int .i64]) (.cons (.var 0) (.consl (.lvar 1) .nil)) 4
(.call 2 ([.bool]) (.consl (.lvar 2) (.consl (.lvar 4) .nil)) 6
(.br (.bvar 6)
(.br (.eq (.var 3) (.var 5))
(.call 3 ([.bool]) .nil 7
(.leaf (.consb (.bvar 7) .nil)))
(.leaf (.consb (.tt false) .nil)))
(.leaf (.consb (.tt false) .nil)))))))
def sP_lsrun : Spec := ⟨fun k => match k with | 0 => sF_srun | 1 => sF_jspan | 2 => sF_ssame | 3 => sF_swakes | _ => fun _ => [], fun k => match k with | 0 => sQ_srun | 1 => sQ_jspan | 2 => sQ_ssame | _ => fun _ => True⟩
set_option maxRecDepth 100000 in
theorem sR_lsrun : treeIs tys_SpD [sM_srun 0, sM_jspan 1, sM_ssame 2, sM_swakes 3] [] [] [] 200 Try.f6 [.agg kProg] [.one .bool] false [.int .i64, .list [some .i8, some .i8, some .i8, some .i8, none, some .i8, some .i8, some .i64, some .i64]] sT_lsrun := ⟨by kernel_rfl, by kernel_rfl, by kernel_rfl⟩
set_option maxRecDepth 100000 in
set_option maxHeartbeats 8000000 in
theorem sX_lsrun (pr : Prog) (hpr : Prog.ok pr) (ρ : Env) (g : varsD ρ 0 [.int .i64, .list [some .i8, some .i8, some .i8, some .i8, none, some .i8, some .i8, some .i64, some .i64]] = [.z pr.ctx, .l pr.l]) : sT_lsrun.asks sP_lsrun (fun ρ e => e.D ρ = sF_lsrun [.z pr.ctx, .l pr.l]) ρ fun _ _ => False := by
  simp only [varsD, varD, List.cons.injEq, Dt.z.injEq, Dt.l.injEq, b2i_eq_iff, Nat.reduceAdd, and_true] at g
  simp only [sT_lsrun, sP_lsrun, sF_srun, sF_jspan, sF_ssame, sF_swakes, sV_srun, sV_jspan, sV_ssame, sF_lsrun, sV_lsrun, sQ_srun, sQ_jspan, sQ_ssame, Tr.asks, upd_same, okDs, okD, eqs, E.I, E.B, E.L, E.R, E.D, E.vs, dI, dB, dL, varD, varsD, List.getElem?_cons_zero, List.getElem?_cons_succ, List.cons_append, List.nil_append, Nat.zero_add, Nat.add_zero, Nat.reduceAdd, and_true, true_and, b2i_one, -eq_self, Ins.eta, Prog.eta, insAt_mk, Span.eta, spanAt_mk, g]
  refine ⟨fun c0 => ?_, fun c0 => ?_⟩
  intro e; (try simp only [e, Ins.eta, Prog.eta, insAt_mk, Span.eta, spanAt_mk, -eq_self]); clear e
  · rfl
  refine ⟨?_, ?_⟩
  · exact hpr.2.len
  intro e; (try simp only [e, Ins.eta, Prog.eta, insAt_mk, Span.eta, spanAt_mk, -eq_self]); clear e
  refine ⟨?_, ?_⟩
  · exact hpr.2.len
  intro e; (try simp only [e, Ins.eta, Prog.eta, insAt_mk, Span.eta, spanAt_mk, -eq_self]); clear e
  refine ⟨?_, ?_⟩
  · exact ⟨Nat.le_trans (srun_len pr) (by decide), Nat.le_trans (srun_len pr) (by decide)⟩
  intro e; (try simp only [e, Ins.eta, Prog.eta, insAt_mk, Span.eta, spanAt_mk, -eq_self]); clear e
  refine ⟨fun c1 => ?_, fun c1 => ?_⟩
  refine ⟨fun c2 => ?_, fun c2 => ?_⟩
  intro e; (try simp only [e, Ins.eta, Prog.eta, insAt_mk, Span.eta, spanAt_mk, -eq_self]); clear e
  · rfl
  · exact absurd rfl (neI c2)
  · exact absurd rfl (of_decide_eq_false c1)
theorem sC_lsrun (xs : List Dt) (vals : List Value) (w : World) (hw : shRel w [.agg kProg] xs vals) : Calls Try.prog 6 vals.toArray w fun e w' => ∃ v, e = .returned v ∧ RetOk [.one .bool] false w w' (sF_lsrun xs) v :=
  (fun_calls (by kernel_rfl) tysok_SpD (smc (sK_srun rfl rfl) (smc (sK_jspan rfl rfl) (smc (sK_ssame rfl rfl) (smc (sK_swakes rfl) sm0)))) Try.func6 fn0 sR_lsrun (pre := fun _ => True) (fun x0 gx0 x1 gx1 hp ρ g => sX_lsrun ⟨x0, x1⟩ ⟨gx0, gx1⟩ ρ g) xs vals w hw trivial).2
set_option maxRecDepth 100000 in
set_option maxHeartbeats 8000000 in
theorem law_SpansRun {H : Type} {enc : TypeId × Value → H} {W : World} {r : Reach} {b0 : Nat} (v0 : Value) (k0 : Value.okWide Try.prog W r b0 24 v0) (d0 : DataW H) (p0 : List MemPlace) (h0 : DataW.Trod enc Try.prog W 0 (fun _ => true) true 24 v0 d0 p0) (_ : ∀ x ∈ p0, x.block < W.heap.size) :
    Calls Try.prog 6 #[v0] W fun e W' => e = .returned (.bool true) ∧ Below W.heap.size W W' := by
  obtain ⟨a0, q0, s0, rfl, w0, n0, m0, o0, l0⟩ := Prog.of_arg k0 h0
  refine (sC_lsrun (.z a0 :: ( .l q0 :: ([]))) _ W ⟨_, _, _, rfl, ⟨_, _, _, rfl, ⟨_, rfl, rfl, w0⟩, ⟨_, _, _, rfl, ⟨_, _, rfl, rfl, n0, m0, o0, l0⟩, ⟨rfl, rfl⟩⟩⟩, ⟨rfl, rfl⟩⟩).mono fun e W' ⟨v, he, hr⟩ => ?_
  have hv : v = .bool true := RetOk.says hr
  rw [he, hv]
  exact ⟨rfl, hr.ext⟩
end Go.Proofs.Ytmkaphfdgdkaoaa
