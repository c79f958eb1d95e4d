/- Contracts of the document's own Check and Next. -/
import Derived.Test.YtmkaphfdgdkaoaaLiK
import Derived.Test.YtmkaphfdgdkaoaaProg
import Derived.Laws.Externs
set_option linter.unusedVariables false
set_option linter.unusedSimpArgs false
namespace Go.Proofs.Ytmkaphfdgdkaoaa
open Go.RowKit Go.ChangeShapes Go.WideShapes

def tys_LiL : List (Nat × TI) := [(3, ⟨false, 1, [.int .i64 (.lit 0)], [], none, some .i64, false, false, none, 8, false, none, false⟩),
 (4, ⟨false, 1, [.bool (.tt false)], [], none, none, false, true, none, 1, false, none, false⟩),
 (22, ⟨false, 1, [.nsl], [], none, none, false, false, some 33, 24, false, none, false⟩),
 (24, ⟨true, 2, [.int .i64 (.lit 0), .nsl], [(0, 3), (1, 22)], none, none, false, false, none, 32, false, none, false⟩),
 (27, ⟨false, 1, [.nsl], [], none, none, false, false, some 3, 24, false, none, false⟩),
 (28, ⟨false, 1, [.int .i64 (.lit 0)], [], none, some .i64, false, false, none, 8, false, none, false⟩),
 (31, ⟨false, 1, [.int .i8 (.lit 0)], [], none, some .i8, false, false, none, 1, false, none, false⟩),
 (33, ⟨true, 9, [.int .i8 (.lit 0), .int .i8 (.lit 0), .int .i8 (.lit 0), .int .i8 (.lit 0), .bool (.tt false), .int .i8 (.lit 0), .int .i8 (.lit 0), .int .i64 (.lit 0), .int .i64 (.lit 0)], [(0, 31), (1, 31), (2, 31), (3, 31), (4, 4), (5, 31), (6, 31), (7, 3), (8, 3)], none, none, true, false, none, 24, false, none, false⟩)]
set_option maxRecDepth 100000 in
theorem tysck_LiL : (tys_LiL.all fun p => ckTI Try.prog p.1 p.2) = true := by kernel_rfl
theorem tyseq_LiL : (tys_LiL.all fun p => !p.2.eqok || ((Nat.beq p.1 33 && kindsC p.2.zero z_Ins))) = true := by kernel_rfl
theorem tyskn_LiL : (tys_LiL.all fun p => !p.2.keyok) = true := by kernel_rfl
theorem tysok_LiL : ∀ t i, (t, i) ∈ tys_LiL → TIok Try.prog t i := by
  intro t i h
  refine TIok_of (all_at (f := ckTI Try.prog) tysck_LiL h) (fun he => ?_) (fun he => ?_) (fun he => ?_)
  · have h1 := List.all_eq_true.1 tyseq_LiL (t, i) h
    simp only [he, Bool.not_true, Bool.false_or, Bool.or_eq_true, Bool.and_eq_true] at h1
    have hs := h1.2
    obtain rfl := Nat.eq_of_beq_eq_true h1.1
    exact fun vs us hv hu => eq_Ins vs us (kindsV_of hs hv) (kindsV_of hs hu)
  · have h1 := List.all_eq_true.1 tyseq_LiL (t, i) h
    simp only [he, Bool.not_true, Bool.false_or, Bool.or_eq_true, Bool.and_eq_true] at h1
    have hs := h1.2
    obtain rfl := Nat.eq_of_beq_eq_true h1.1
    exact grd_Ins
  · have h1 := List.all_eq_true.1 tyskn_LiL (t, i) h
    simp [he] at h1
def sM_jcheck (key : Nat) : Sm := ⟨51, key, [.agg kProg], [.one (.int .i64), .one (.int .i64)], true⟩
def sV_jcheck (pr : Prog) : List Dt := [.z ((icheck pr).1), .z ((icheck pr).2)]
def sF_jcheck : List Dt → List Dt
  | [.z x0, .l x1] => sV_jcheck ⟨x0, x1⟩
  | _ => []
def sT_jcheck : Tr :=
(.br (.lt (.var 0) (.lit 0))
(.leaf (.cons (.lit 0) (.cons (.lit 2) .nil)))
(.br (.lt (.lit 256) (.var 0))
(.leaf (.cons (.lit 0) (.cons (.lit 2) .nil)))
(.br (.lt (.len (.lvar 1)) (.lit 1))
(.leaf (.cons (.lit 0) (.cons (.lit 3) .nil)))
(.br (.lt (.lit 64) (.len (.lvar 1)))
(.leaf (.cons (.lit 0) (.cons (.lit 3) .nil)))
(.loop 0 2 [.int .i64] (.cons (.lit 0) .nil)
(.br (.lt (.var 2) (.len (.lvar 1)))
(.br (.lt (.var 2) (.lit 0))
.panic
(.call 0 ([.bool]) (.cons (.get (.lvar 1) (.var 2) 0) (.cons (.get (.lvar 1) (.var 2) 1) (.cons (.get (.lvar 1) (.var 2) 2) (.cons (.get (.lvar 1) (.var 2) 3) (.consb (.getb (.lvar 1) (.var 2) 4) (.cons (.get (.lvar 1) (.var 2) 5) (.cons (.get (.lvar 1) (.var 2) 6) (.cons (.get (.lvar 1) (.var 2) 7) (.cons (.get (.lvar 1) (.var 2) 8) .nil))))))))) 3
(.br (.bvar 3)
(.call 1 ([.int .i64] ++ [.bool]) (.cons (.var 2) (.cons (.get (.lvar 1) (.var 2) 0) (.cons (.get (.lvar 1) (.var 2) 1) (.cons (.get (.lvar 1) (.var 2) 2) (.cons (.get (.lvar 1) (.var 2) 3) (.consb (.getb (.lvar 1) (.var 2) 4) (.cons (.get (.lvar 1) (.var 2) 5) (.cons (.get (.lvar 1) (.var 2) 6) (.cons (.get (.lvar 1) (.var 2) 7) (.cons (.get (.lvar 1) (.var 2) 8) .nil)))))))))) 4
(.br (.bvar 5)
(.br (.lt (.var 4) (.lit 0))
(.leaf (.cons (.var 2) (.cons (.lit 32) .nil)))
(.br (.lt (.var 4) (.len (.lvar 1)))
(.next 0 (.cons (.bin .add .i64 (.var 2) (.lit 1)) .nil))
(.leaf (.cons (.var 2) (.cons (.lit 32) .nil)))))
(.next 0 (.cons (.bin .add .i64 (.var 2) (.lit 1)) .nil))))
(.leaf (.cons (.var 2) (.cons (.lit 31) .nil))))))
(.br (.lt (.bin .sub .i64 (.len (.lvar 1)) (.lit 1)) (.lit 0))
.panic
(.br (.lt (.bin .sub .i64 (.len (.lvar 1)) (.lit 1)) (.len (.lvar 1)))
(.br (.eq (.get (.lvar 1) (.bin .sub .i64 (.len (.lvar 1)) (.lit 1)) 0) (.lit 4))
(.leaf (.cons (.lit 0) (.cons (.lit 0) .nil)))
(.br (.eq (.get (.lvar 1) (.bin .sub .i64 (.len (.lvar 1)) (.lit 1)) 0) (.lit 6))
(.leaf (.cons (.lit 0) (.cons (.lit 0) .nil)))
(.leaf (.cons (.bin .sub .i64 (.len (.lvar 1)) (.lit 1)) (.cons (.lit 33) .nil)))))
.panic))))))))
def sP_jcheck : Spec := ⟨fun k => match k with | 0 => sF_jmay | 1 => sF_jtgt | _ => fun _ => [], fun k => match k with | _ => fun _ => True⟩
set_option maxRecDepth 100000 in
theorem sR_jcheck : treeIs tys_LiL [sM_jmay 0, sM_jtgt 1] [] [(7, [.tmpI 5 .i64, .top 25, .top 26, .top 27, .top 30, .top 31, .top 32, .top 33, .top 34, .top 35, .top 36, .top 37, .top 2, .top 3, .top 39, .top 40, .top 41, .top 42, .top 43, .top 44, .top 45, .top 38, .top 46, .top 47, .top 6, .top 7, .top 48, .top 49, .top 50, .top 51, .top 52, .top 53, .top 54, .top 55, .top 56, .top 57, .top 58, .top 28, .top 29])] [] 200 Try.f51 [.agg kProg] [.one (.int .i64), .one (.int .i64)] true [.int .i64, .list [some .i8, some .i8, some .i8, some .i8, none, some .i8, some .i8, some .i64, some .i64]] sT_jcheck := ⟨by kernel_rfl, by kernel_rfl, by kernel_rfl⟩
def sQ_jcheck : List Dt → Prop
  | [.z x0, .l x1] => let f (pr : Prog) : Prop := pr.l.length ≤ maxLen; f ⟨x0, x1⟩
  | _ => False
set_option maxRecDepth 100000 in
set_option maxHeartbeats 8000000 in
theorem sX_jcheck (pr : Prog) (hpr : Prog.ok pr) (hp : sQ_jcheck [.z pr.ctx, .l pr.l]) (ρ : Env) (g : varsD ρ 0 [.int .i64, .list [some .i8, some .i8, some .i8, some .i8, none, some .i8, some .i8, some .i64, some .i64]] = [.z pr.ctx, .l pr.l]) : sT_jcheck.asks sP_jcheck (fun ρ e => e.D ρ = sF_jcheck [.z pr.ctx, .l pr.l]) ρ fun _ _ => False := by
  simp only [sQ_jcheck, b2i_one, Ins.eta, Prog.eta, insAt_mk] at hp
  have keepg := g
  simp only [varsD, varD, List.cons.injEq, Dt.z.injEq, Dt.l.injEq, b2i_eq_iff, Nat.reduceAdd, and_true] at g
  simp only [sT_jcheck, sP_jcheck, sF_jmay, sF_jtgt, sV_jmay, sV_jtgt, sF_jcheck, sV_jcheck, Tr.asks, upd_same, okDs, okD, eqs, E.I, E.B, E.L, E.R, E.D, E.vs, dI, dB, dL, varD, varsD, List.getElem?_cons_zero, List.getElem?_cons_succ, List.cons_append, List.nil_append, Nat.zero_add, Nat.add_zero, Nat.reduceAdd, and_true, true_and, b2i_one, -eq_self, Ins.eta, Prog.eta, insAt_mk, g]
  have hp := hpr.2.len
  have hla := last_eq hp
  refine ⟨fun c0 => ?_, fun c0 => ?_⟩
  · rw [icheck_ctx (by have q := of_decide_eq_true c0; simp; omega)]; try rfl
  refine ⟨fun c1 => ?_, fun c1 => ?_⟩
  · rw [icheck_ctx (by have q := of_decide_eq_true c1; simp; omega)]; try rfl
  refine ⟨fun c2 => ?_, fun c2 => ?_⟩
  · rw [icheck_len (by have q1 := of_decide_eq_false c0; have q2 := of_decide_eq_false c1; simp; omega) (by have q := of_decide_eq_true c2; rw [hla]; simp; omega)]; try rfl
  refine ⟨fun c3 => ?_, fun c3 => ?_⟩
  · rw [icheck_len (by have q1 := of_decide_eq_false c0; have q2 := of_decide_eq_false c1; simp; omega) (by have q := of_decide_eq_true c3; rw [hla]; simp; omega)]; try rfl
  have hC : (decide (0 ≤ pr.ctx) && decide (pr.ctx ≤ 256)) = true := by have q1 := of_decide_eq_false c0; have q2 := of_decide_eq_false c1; simp; omega
  have hL : (decide (0 ≤ pr.last) && decide (pr.last ≤ 63)) = true := by have q1 := of_decide_eq_false c2; have q2 := of_decide_eq_false c3; rw [hla]; simp; omega
  refine ⟨fun ds => ∃ n : Nat, ds = [.z (n : Int)] ∧ n ≤ pr.l.length ∧ (scan pr pr.l.length 0 = scan pr (pr.l.length - n) n), fun ds => (pr.l.length - (dI ds 0).toNat), ⟨0, rfl, Nat.zero_le _, rfl⟩, ?_⟩
  intro ρ1 ha1 _ hi1
  obtain ⟨n, hds, r1, r2⟩ := hi1
  simp only [List.cons.injEq, Dt.z.injEq, and_true] at hds
  have g1 := (varsD_ag ha1 _ 0 (by decide)).trans keepg
  simp only [varsD, varD, List.cons.injEq, Dt.z.injEq, Dt.l.injEq, b2i_eq_iff, Nat.reduceAdd, and_true] at g1
  simp only [g1, hds, insAt_mk, -eq_self]
  refine ⟨fun c4 => ?_, fun c4 => ?_⟩
  refine ⟨fun c5 => ?_, fun c5 => ?_⟩
  · exact absurd (of_decide_eq_true c5) (by omega)
  intro e; (try simp only [e, Ins.eta, Prog.eta, insAt_mk, -eq_self]); clear e
  refine ⟨fun c6 => ?_, fun c6 => ?_⟩
  intro e; (try simp only [e, Ins.eta, Prog.eta, insAt_mk, -eq_self]); clear e
  refine ⟨fun c7 => ?_, fun c7 => ?_⟩
  refine ⟨fun c8 => ?_, fun c8 => ?_⟩
  · rw [icheck_bad hC hL r2 (Int.ofNat_lt.1 (of_decide_eq_true c4)) (badAt_to c6 c7 (by have q := of_decide_eq_true c8; rw [hla]; simp; omega))]; try rfl
  refine ⟨fun c9 => ?_, fun c9 => ?_⟩
  · exact ⟨⟨n + 1, by rw [addN (Int.ofNat_lt.1 (of_decide_eq_true c4)) hp], (Int.ofNat_lt.1 (of_decide_eq_true c4)), r2.trans (scan_step (Int.ofNat_lt.1 (of_decide_eq_true c4)) (badAt_no c6 (.inr (by have q1 := of_decide_eq_false c8; have q2 := of_decide_eq_true c9; rw [hla]; simp; omega))))⟩, by rw [addN (Int.ofNat_lt.1 (of_decide_eq_true c4)) hp]; show pr.l.length - (((n + 1 : Nat) : Int)).toNat < pr.l.length - ((n : Int)).toNat; have := (Int.ofNat_lt.1 (of_decide_eq_true c4)); omega⟩
  · rw [icheck_bad hC hL r2 (Int.ofNat_lt.1 (of_decide_eq_true c4)) (badAt_to c6 c7 (by have q := of_decide_eq_false c9; rw [hla]; simp; omega))]; try rfl
  · exact ⟨⟨n + 1, by rw [addN (Int.ofNat_lt.1 (of_decide_eq_true c4)) hp], (Int.ofNat_lt.1 (of_decide_eq_true c4)), r2.trans (scan_step (Int.ofNat_lt.1 (of_decide_eq_true c4)) (badAt_no c6 (.inl c7)))⟩, by rw [addN (Int.ofNat_lt.1 (of_decide_eq_true c4)) hp]; show pr.l.length - (((n + 1 : Nat) : Int)).toNat < pr.l.length - ((n : Int)).toNat; have := (Int.ofNat_lt.1 (of_decide_eq_true c4)); omega⟩
  · rw [icheck_bad hC hL r2 (Int.ofNat_lt.1 (of_decide_eq_true c4)) (badAt_may c6)]; try rfl
  refine ⟨fun c10 => ?_, fun c10 => ?_⟩
  · have q := of_decide_eq_true c10
    have w : opI .sub .i64 (pr.l.length : Int) 1 = _ := hla
    rw [w] at q
    have q3 := of_decide_eq_false c2
    omega
  refine ⟨fun c11 => ?_, fun c11 => ?_⟩
  refine ⟨fun c12 => ?_, fun c12 => ?_⟩
  · rw [icheck_end hC hL r2 (by have := of_decide_eq_false c4; omega), if_pos (.inl (eqI c12))]; try rfl
  refine ⟨fun c13 => ?_, fun c13 => ?_⟩
  · rw [icheck_end hC hL r2 (by have := of_decide_eq_false c4; omega), if_pos (.inr (eqI c13))]; try rfl
  · rw [icheck_end hC hL r2 (by have := of_decide_eq_false c4; omega), if_neg (fun h => h.elim (neI c12) (neI c13))]; try rfl
  · have q := of_decide_eq_false c11
    have w : opI .sub .i64 (pr.l.length : Int) 1 = _ := hla
    rw [w] at q
    have q3 := of_decide_eq_false c2
    omega
theorem sK_jcheck {sp : Spec} {key : Nat} (hF : sp.F key = sF_jcheck) (hP : sp.pre key = sQ_jcheck) : SmOk Try.prog sp (sM_jcheck key) :=
  fun_ok (s := sM_jcheck key) hF hP (by kernel_rfl) tysok_LiL (smc (sK_jmay rfl) (smc (sK_jtgt rfl) sm0)) Try.func51 fn0 sR_jcheck (.inr (fun xs h L hL => by unfold sQ_jcheck at h; split at h <;> first | exact h.elim | (simp at hL; subst hL; exact h))) (fun x0 gx0 x1 gx1 hp ρ g => sX_jcheck ⟨x0, x1⟩ ⟨gx0, gx1⟩ hp ρ g)
def sM_jnx (key : Nat) : Sm := ⟨22, key, [.agg kProg, .one (.int .i64)], [.one (.sl [some .i64] 3)], false⟩
def sV_jnx (pr : Prog) (i : Int) : List Dt := [.l (lnx pr i)]
def sF_jnx : List Dt → List Dt
  | [.z x0, .l x1, .z x2] => sV_jnx ⟨x0, x1⟩ x2
  | _ => []
def sT_jnx : Tr :=
(.call 0 ([.int .i64] ++ [.int .i64]) (.cons (.var 0) (.consl (.lvar 1) .nil)) 3
(.br (.eq (.var 4) (.lit 0))
(.br (.lt (.var 2) (.lit 0))
(.leaf (.consl .lnil .nil))
(.br (.lt (.var 2) (.len (.lvar 1)))
(.call 1 ([.int .i64] ++ [.bool]) (.cons (.var 2) (.cons (.get (.lvar 1) (.var 2) 0) (.cons (.get (.lvar 1) (.var 2) 1) (.cons (.get (.lvar 1) (.var 2) 2) (.cons (.get (.lvar 1) (.var 2) 3) (.consb (.getb (.lvar 1) (.var 2) 4) (.cons (.get (.lvar 1) (.var 2) 5) (.cons (.get (.lvar 1) (.var 2) 6) (.cons (.get (.lvar 1) (.var 2) 7) (.cons (.get (.lvar 1) (.var 2) 8) .nil)))))))))) 5
(.br (.eq (.get (.lvar 1) (.var 2) 0) (.lit 4))
(.br (.bvar 6)
(.leaf (.consl (.lapp .lnil (.cons (.var 5) .nil)) .nil))
(.leaf (.consl .lnil .nil)))
(.br (.bvar 6)
(.br (.eq (.get (.lvar 1) (.var 2) 0) (.lit 6))
(.leaf (.consl (.lapp .lnil (.cons (.var 5) .nil)) .nil))
(.br (.lt (.var 5) (.bin .add .i64 (.var 2) (.lit 1)))
(.leaf (.consl (.lcat (.lapp .lnil (.cons (.var 5) .nil)) (.lapp .lnil (.cons (.bin .add .i64 (.var 2) (.lit 1)) .nil))) .nil))
(.br (.lt (.bin .add .i64 (.var 2) (.lit 1)) (.var 5))
(.leaf (.consl (.lcat (.lapp .lnil (.cons (.bin .add .i64 (.var 2) (.lit 1)) .nil)) (.lapp .lnil (.cons (.var 5) .nil))) .nil))
(.leaf (.consl (.lapp .lnil (.cons (.bin .add .i64 (.var 2) (.lit 1)) .nil)) .nil)))))
(.br (.eq (.get (.lvar 1) (.var 2) 0) (.lit 6))
(.leaf (.consl .lnil .nil))
(.leaf (.consl (.lapp .lnil (.cons (.bin .add .i64 (.var 2) (.lit 1)) .nil)) .nil))))))
(.leaf (.consl .lnil .nil))))
(.leaf (.consl .lnil .nil))))
def sP_jnx : Spec := ⟨fun k => match k with | 0 => sF_jcheck | 1 => sF_jtgt | _ => fun _ => [], fun k => match k with | 0 => sQ_jcheck | _ => fun _ => True⟩
set_option maxRecDepth 100000 in
theorem sR_jnx : treeIs tys_LiL [sM_jcheck 0, sM_jtgt 1] [] [] [] 200 Try.f22 [.agg kProg, .one (.int .i64)] [.one (.sl [some .i64] 3)] false [.int .i64, .list [some .i8, some .i8, some .i8, some .i8, none, some .i8, some .i8, some .i64, some .i64], .int .i64] sT_jnx := ⟨by kernel_rfl, by kernel_rfl, by kernel_rfl⟩
def sQ_jnx : List Dt → Prop
  | [.z x0, .l x1, .z x2] => let f (pr : Prog) (i : Int) : Prop := pr.l.length ≤ maxLen; f ⟨x0, x1⟩ x2
  | _ => False
set_option maxRecDepth 100000 in
set_option maxHeartbeats 8000000 in
theorem sX_jnx (pr : Prog) (hpr : Prog.ok pr) (i : Int) (hi : inK .i64 i = true) (hp : sQ_jnx [.z pr.ctx, .l pr.l, .z i]) (ρ : Env) (g : varsD ρ 0 [.int .i64, .list [some .i8, some .i8, some .i8, some .i8, none, some .i8, some .i8, some .i64, some .i64], .int .i64] = [.z pr.ctx, .l pr.l, .z i]) : sT_jnx.asks sP_jnx (fun ρ e => e.D ρ = sF_jnx [.z pr.ctx, .l pr.l, .z i]) ρ fun _ _ => False := by
  simp only [sQ_jnx, b2i_one, Ins.eta, Prog.eta, insAt_mk] at hp
  simp only [varsD, varD, List.cons.injEq, Dt.z.injEq, Dt.l.injEq, b2i_eq_iff, Nat.reduceAdd, and_true] at g
  simp only [sT_jnx, sP_jnx, sF_jcheck, sF_jtgt, sV_jcheck, sV_jtgt, sF_jnx, sV_jnx, sQ_jcheck, Tr.asks, upd_same, okDs, okD, eqs, E.I, E.B, E.L, E.R, E.D, E.vs, dI, dB, dL, varD, varsD, List.getElem?_cons_zero, List.getElem?_cons_succ, List.cons_append, List.nil_append, Nat.zero_add, Nat.add_zero, Nat.reduceAdd, and_true, true_and, b2i_one, -eq_self, Ins.eta, Prog.eta, insAt_mk, g]
  refine ⟨?_, ?_⟩
  · exact hpr.2.len
  intro e; (try simp only [e, Ins.eta, Prog.eta, insAt_mk, -eq_self]); clear e
  refine ⟨fun c0 => ?_, fun c0 => ?_⟩
  refine ⟨fun c1 => ?_, fun c1 => ?_⟩
  · rw [lnx_0 (of_decide_eq_true c1)]; try rfl
  refine ⟨fun c2 => ?_, fun c2 => ?_⟩
  intro e; (try simp only [e, Ins.eta, Prog.eta, insAt_mk, -eq_self]); clear e
  refine ⟨fun c3 => ?_, fun c3 => ?_⟩
  refine ⟨fun c4 => ?_, fun c4 => ?_⟩
  · rw [lnx_y (eqI c0) (Int.not_lt.1 (of_decide_eq_false c1)) (of_decide_eq_true c2)]
    unfold lnext
    rw [if_neg (fun h => h.1 (eqI c3)), if_pos c4]; try rfl
  · rw [lnx_y (eqI c0) (Int.not_lt.1 (of_decide_eq_false c1)) (of_decide_eq_true c2)]
    unfold lnext
    rw [if_neg (fun h => h.1 (eqI c3)), if_neg (by rw [c4]; simp)]; try rfl
  refine ⟨fun c5 => ?_, fun c5 => ?_⟩
  refine ⟨fun c6 => ?_, fun c6 => ?_⟩
  · rw [lnx_y (eqI c0) (Int.not_lt.1 (of_decide_eq_false c1)) (of_decide_eq_true c2)]
    unfold lnext
    rw [if_neg (fun h => h.2 (eqI c6)), if_pos c5]; try rfl
  refine ⟨fun c7 => ?_, fun c7 => ?_⟩
  · rw [lnx_y (eqI c0) (Int.not_lt.1 (of_decide_eq_false c1)) (of_decide_eq_true c2)]
    unfold lnext
    have q := of_decide_eq_true c7
    rw [if_pos ⟨neI c3, neI c6⟩, if_pos ⟨c5, by omega⟩, Int.min_eq_left (by omega), Int.max_eq_right (by omega)]; try rfl
  refine ⟨fun c8 => ?_, fun c8 => ?_⟩
  · rw [lnx_y (eqI c0) (Int.not_lt.1 (of_decide_eq_false c1)) (of_decide_eq_true c2)]
    unfold lnext
    have q := of_decide_eq_true c8
    have q0 := of_decide_eq_false c7
    rw [if_pos ⟨neI c3, neI c6⟩, if_pos ⟨c5, by omega⟩, Int.min_eq_right (by omega), Int.max_eq_left (by omega)]; try rfl
  · rw [lnx_y (eqI c0) (Int.not_lt.1 (of_decide_eq_false c1)) (of_decide_eq_true c2)]
    unfold lnext
    have q := of_decide_eq_false c8
    have q0 := of_decide_eq_false c7
    rw [if_pos ⟨neI c3, neI c6⟩, if_neg (fun h => h.2 (by omega))]; try rfl
  refine ⟨fun c9 => ?_, fun c9 => ?_⟩
  · rw [lnx_y (eqI c0) (Int.not_lt.1 (of_decide_eq_false c1)) (of_decide_eq_true c2)]
    unfold lnext
    rw [if_neg (fun h => h.2 (eqI c9)), if_neg (by rw [c5]; simp)]; try rfl
  · rw [lnx_y (eqI c0) (Int.not_lt.1 (of_decide_eq_false c1)) (of_decide_eq_true c2)]
    unfold lnext
    rw [if_pos ⟨neI c3, neI c9⟩, if_neg (fun h => absurd h.1 (by rw [c5]; simp))]; try rfl
  · rw [lnx_1 (of_decide_eq_false c2)]; try rfl
  · rw [lnx_e (neI c0)]; try rfl
theorem sK_jnx {sp : Spec} {key : Nat} (hF : sp.F key = sF_jnx) (hP : sp.pre key = sQ_jnx) : SmOk Try.prog sp (sM_jnx key) :=
  fun_ok (s := sM_jnx key) hF hP (by kernel_rfl) tysok_LiL (smc (sK_jcheck rfl rfl) (smc (sK_jtgt rfl) sm0)) Try.func22 fn0 sR_jnx (.inr (fun xs h L hL => by unfold sQ_jnx at h; split at h <;> first | exact h.elim | (simp at hL; subst hL; exact h))) (fun x0 gx0 x1 gx1 x2 gx2 hp ρ g => sX_jnx ⟨x0, x1⟩ ⟨gx0, gx1⟩ x2 gx2 hp ρ g)
end Go.Proofs.Ytmkaphfdgdkaoaa
