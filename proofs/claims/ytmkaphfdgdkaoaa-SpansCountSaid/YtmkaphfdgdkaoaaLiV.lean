/- Contracts of Calls, Crosses and of latheref01.Ints. -/
import Derived.Test.YtmkaphfdgdkaoaaLiR
import Derived.Test.YtmkaphfdgdkaoaaLiS
import Derived.Test.YtmkaphfdgdkaoaaLiU
import Derived.Test.YtmkaphfdgdkaoaaProg
import Derived.Laws.Externs
set_option linter.unusedVariables false
set_option linter.unusedSimpArgs false
namespace Go.Proofs.Ytmkaphfdgdkaoaa
open Go.RowKit Go.ChangeShapes Go.WideShapes

def tys_LiV : List (Nat × TI) := [(3, ⟨false, 1, [.int .i64 (.lit 0)], [], none, some .i64, false, false, none, 8, false, none, false⟩),
 (4, ⟨false, 1, [.bool (.tt false)], [], none, none, false, true, none, 1, false, none, false⟩),
 (22, ⟨false, 1, [.nsl], [], none, none, false, false, some 33, 24, false, none, false⟩),
 (24, ⟨true, 2, [.int .i64 (.lit 0), .nsl], [(0, 3), (1, 22)], none, none, false, false, none, 32, false, none, false⟩),
 (27, ⟨false, 1, [.nsl], [], none, none, false, false, some 3, 24, false, none, false⟩),
 (28, ⟨false, 1, [.int .i64 (.lit 0)], [], none, some .i64, false, false, none, 8, false, none, false⟩),
 (31, ⟨false, 1, [.int .i8 (.lit 0)], [], none, some .i8, false, false, none, 1, false, none, false⟩),
 (33, ⟨true, 9, [.int .i8 (.lit 0), .int .i8 (.lit 0), .int .i8 (.lit 0), .int .i8 (.lit 0), .bool (.tt false), .int .i8 (.lit 0), .int .i8 (.lit 0), .int .i64 (.lit 0), .int .i64 (.lit 0)], [(0, 31), (1, 31), (2, 31), (3, 31), (4, 4), (5, 31), (6, 31), (7, 3), (8, 3)], none, none, true, false, none, 24, false, none, false⟩),
 (73, ⟨false, 1, [.int .u64 (.lit 0)], [], none, some .u64, false, false, none, 8, false, none, false⟩)]
set_option maxRecDepth 100000 in
theorem tysck_LiV : (tys_LiV.all fun p => ckTI Try.prog p.1 p.2) = true := by kernel_rfl
theorem tyseq_LiV : (tys_LiV.all fun p => !p.2.eqok || ((Nat.beq p.1 33 && kindsC p.2.zero z_Ins))) = true := by kernel_rfl
theorem tyskn_LiV : (tys_LiV.all fun p => !p.2.keyok) = true := by kernel_rfl
theorem tysok_LiV : ∀ t i, (t, i) ∈ tys_LiV → TIok Try.prog t i := by
  intro t i h
  refine TIok_of (all_at (f := ckTI Try.prog) tysck_LiV h) (fun he => ?_) (fun he => ?_) (fun he => ?_)
  · have h1 := List.all_eq_true.1 tyseq_LiV (t, i) h
    simp only [he, Bool.not_true, Bool.false_or, Bool.or_eq_true, Bool.and_eq_true] at h1
    have hs := h1.2
    obtain rfl := Nat.eq_of_beq_eq_true h1.1
    exact fun vs us hv hu => eq_Ins vs us (kindsV_of hs hv) (kindsV_of hs hu)
  · have h1 := List.all_eq_true.1 tyseq_LiV (t, i) h
    simp only [he, Bool.not_true, Bool.false_or, Bool.or_eq_true, Bool.and_eq_true] at h1
    have hs := h1.2
    obtain rfl := Nat.eq_of_beq_eq_true h1.1
    exact grd_Ins
  · have h1 := List.all_eq_true.1 tyskn_LiV (t, i) h
    simp [he] at h1
def sM_lcalls (key : Nat) : Sm := ⟨23, key, [.agg kProg], [.one (.sl [some .i64] 3)], false⟩
def sV_lcalls (pr : Prog) : List Dt := [.l (lcalls pr)]
def sF_lcalls : List Dt → List Dt
  | [.z x0, .l x1] => sV_lcalls ⟨x0, x1⟩
  | _ => []
def sT_lcalls : Tr :=
(.call 0 ([.int .i64] ++ [.int .i64]) (.cons (.var 0) (.consl (.lvar 1) .nil)) 2
(.br (.eq (.var 3) (.lit 0))
(.loop 0 4 [.int .i64, .list [some .i64]] (.cons (.lit 0) (.consl .lnil .nil))
(.br (.lt (.var 4) (.len (.lvar 1)))
(.br (.lt (.var 4) (.lit 0))
.panic
(.br (.eq (.get (.lvar 1) (.var 4) 0) (.lit 5))
(.br (.lt (.len (.lvar 5)) (.lit 1073741824))
(.next 0 (.cons (.bin .add .i64 (.var 4) (.lit 1)) (.consl (.lapp (.lvar 5) (.cons (.var 4) .nil)) .nil)))
.panic)
(.next 0 (.cons (.bin .add .i64 (.var 4) (.lit 1)) (.consl (.lvar 5) .nil)))))
(.leaf (.consl (.lvar 5) .nil))))
(.leaf (.consl .lnil .nil))))
def sP_lcalls : Spec := ⟨fun k => match k with | 0 => sF_icheck | _ => fun _ => [], fun k => match k with | 0 => sQ_icheck | _ => fun _ => True⟩
set_option maxRecDepth 100000 in
theorem sR_lcalls : treeIs tys_LiV [sM_icheck 0] [] [(6, [.tmpI 18 .i64, .tmpS 5 [some .i64] 3, .top 19, .top 20, .top 21, .top 22, .top 7, .top 6, .top 23, .top 24, .top 25, .top 26, .top 27, .top 28, .top 29, .top 30])] [] 200 Try.f23 [.agg kProg] [.one (.sl [some .i64] 3)] false [.int .i64, .list [some .i8, some .i8, some .i8, some .i8, none, some .i8, some .i8, some .i64, some .i64]] sT_lcalls := ⟨by kernel_rfl, by kernel_rfl, by kernel_rfl⟩
def sQ_lcalls : List Dt → Prop
  | [.z x0, .l x1] => let f (pr : Prog) : Prop := pr.l.length ≤ maxLen; f ⟨x0, x1⟩
  | _ => False
set_option maxRecDepth 100000 in
set_option maxHeartbeats 8000000 in
theorem sX_lcalls (pr : Prog) (hpr : Prog.ok pr) (hp : sQ_lcalls [.z pr.ctx, .l pr.l]) (ρ : Env) (g : varsD ρ 0 [.int .i64, .list [some .i8, some .i8, some .i8, some .i8, none, some .i8, some .i8, some .i64, some .i64]] = [.z pr.ctx, .l pr.l]) : sT_lcalls.asks sP_lcalls (fun ρ e => e.D ρ = sF_lcalls [.z pr.ctx, .l pr.l]) ρ fun _ _ => False := by
  simp only [sQ_lcalls, b2i_one, Ins.eta, Prog.eta, insAt_mk] at hp
  have keepg := g
  simp only [varsD, varD, List.cons.injEq, Dt.z.injEq, Dt.l.injEq, b2i_eq_iff, Nat.reduceAdd, and_true] at g
  simp only [sT_lcalls, sP_lcalls, sF_icheck, sV_icheck, sF_lcalls, sV_lcalls, sQ_icheck, Tr.asks, upd_same, okDs, okD, eqs, E.I, E.B, E.L, E.R, E.D, E.vs, dI, dB, dL, varD, varsD, List.getElem?_cons_zero, List.getElem?_cons_succ, List.cons_append, List.nil_append, Nat.zero_add, Nat.add_zero, Nat.reduceAdd, and_true, true_and, b2i_one, -eq_self, Ins.eta, Prog.eta, insAt_mk, g]
  obtain ⟨k0_i0, k0_l1⟩ := g
  refine ⟨?_, ?_⟩
  · exact hp
  intro e; have k0_i3 : ρ.i 3 = (icheck pr).2 := e.2; (try simp only [e, Ins.eta, Prog.eta, insAt_mk, -eq_self]); clear e
  refine ⟨fun c0 => ?_, fun c0 => ?_⟩
  refine ⟨fun ds => ∃ n : Nat, ds = [.z (n : Int), .l (rowsN (calN pr n))] ∧ n ≤ pr.l.length ∧ (n = 0 ∨ (icheck pr).2 = 0), fun ds => pr.l.length - (dI ds 0).toNat, ⟨0, rfl, Nat.zero_le _, .inl rfl⟩, ?_⟩
  intro ρ1 ha1 _ hi1
  obtain ⟨n, hds, hn, h0⟩ := hi1
  simp only [List.cons.injEq, Dt.z.injEq, Dt.l.injEq, b2i_eq_iff, and_true] at hds
  obtain ⟨k1_i4, k1_l5⟩ := hds
  have k1_i0 : ρ1.i 0 = _ := (ha1 0 (by decide)).1.symm.trans k0_i0
  have k1_l1 : ρ1.l 1 = _ := (ha1 1 (by decide)).2.2.symm.trans k0_l1
  have k1_i3 : ρ1.i 3 = _ := (ha1 3 (by decide)).1.symm.trans k0_i3
  simp only [k1_i0, k1_l1, k1_i3, k1_i4, k1_l5, insAt_mk, -eq_self]
  refine ⟨fun c1 => ?_, fun c1 => ?_⟩
  refine ⟨fun c2 => ?_, fun c2 => ?_⟩
  · exact absurd (of_decide_eq_true c2) (by omega)
  refine ⟨fun c3 => ?_, fun c3 => ?_⟩
  refine ⟨fun c4 => ?_, fun c4 => ?_⟩
  · have hn2 := Int.ofNat_lt.1 (of_decide_eq_true c1)
    rw [rowsN_app, ← calN_y c3, addN hn2 hp]
    exact ⟨⟨n + 1, rfl, hn2, .inr (eqI c0)⟩, by show pr.l.length - (((n + 1 : Nat) : Int)).toNat < pr.l.length - ((n : Int)).toNat; omega⟩
  · have q := of_decide_eq_false c4
    rw [rowsN_len] at q
    have := calN_len pr n
    have hn2 := Int.ofNat_lt.1 (of_decide_eq_true c1)
    have z := (icheck_ok hp (eqI c0)).1.2.2
    omega
  · have hn2 := Int.ofNat_lt.1 (of_decide_eq_true c1)
    rw [← calN_n c3, addN hn2 hp]
    exact ⟨⟨n + 1, rfl, hn2, .inr (eqI c0)⟩, by show pr.l.length - (((n + 1 : Nat) : Int)).toNat < pr.l.length - ((n : Int)).toNat; omega⟩
  · have hnl : n = pr.l.length := by have := of_decide_eq_false c1; omega
    rw [lcalls_y (eqI c0), hnl]
  · rw [lcalls_n (neI c0)]
theorem sK_lcalls {sp : Spec} {key : Nat} (hF : sp.F key = sF_lcalls) (hP : sp.pre key = sQ_lcalls) : SmOk Try.prog sp (sM_lcalls key) :=
  fun_ok (s := sM_lcalls key) hF hP (by kernel_rfl) tysok_LiV (smc (sK_icheck rfl rfl) sm0) Try.func23 fn0 sR_lcalls (.inr (fun xs h L hL => by unfold sQ_lcalls at h; split at h <;> first | exact h.elim | (simp at hL; subst hL; exact h))) (fun x0 gx0 x1 gx1 hp ρ g => sX_lcalls ⟨x0, x1⟩ ⟨gx0, gx1⟩ hp ρ g)
def sM_jcalls (key : Nat) : Sm := ⟨24, key, [.agg kProg], [.one (.sl [some .i64] 3)], false⟩
def sV_jcalls (pr : Prog) : List Dt := [.l (lcalls pr)]
def sF_jcalls : List Dt → List Dt
  | [.z x0, .l x1] => sV_jcalls ⟨x0, x1⟩
  | _ => []
def sT_jcalls : Tr :=
(.call 0 ([.int .i64] ++ [.int .i64]) (.cons (.var 0) (.consl (.lvar 1) .nil)) 2
(.loop 0 4 [.int .i64, .list [some .i64]] (.cons (.lit 0) (.consl .lnil .nil))
(.br (.lt (.var 4) (.len (.lvar 1)))
(.br (.eq (.var 3) (.lit 0))
(.br (.lt (.var 4) (.lit 0))
.panic
(.br (.eq (.get (.lvar 1) (.var 4) 0) (.lit 5))
(.br (.lt (.len (.lvar 5)) (.lit 1073741824))
(.next 0 (.cons (.bin .add .i64 (.var 4) (.lit 1)) (.consl (.lapp (.lvar 5) (.cons (.var 4) .nil)) .nil)))
.panic)
(.next 0 (.cons (.bin .add .i64 (.var 4) (.lit 1)) (.consl (.lvar 5) .nil)))))
(.leaf (.consl (.lvar 5) .nil)))
(.leaf (.consl (.lvar 5) .nil)))))
def sP_jcalls : Spec := ⟨fun k => match k with | 0 => sF_jcheck | _ => fun _ => [], fun k => match k with | 0 => sQ_jcheck | _ => fun _ => True⟩
set_option maxRecDepth 100000 in
theorem sR_jcalls : treeIs tys_LiV [sM_jcheck 0] [] [(4, [.tmpI 6 .i64, .tmpS 3 [some .i64] 3, .top 12, .top 13, .top 14, .top 15, .top 16, .top 17, .top 18, .top 19, .top 20, .top 23, .top 24, .top 25, .top 26, .top 27, .top 28, .top 29, .top 30, .top 31, .top 32, .top 33, .top 21, .top 22])] [] 200 Try.f24 [.agg kProg] [.one (.sl [some .i64] 3)] false [.int .i64, .list [some .i8, some .i8, some .i8, some .i8, none, some .i8, some .i8, some .i64, some .i64]] sT_jcalls := ⟨by kernel_rfl, by kernel_rfl, by kernel_rfl⟩
def sQ_jcalls : List Dt → Prop
  | [.z x0, .l x1] => let f (pr : Prog) : Prop := pr.l.length ≤ maxLen; f ⟨x0, x1⟩
  | _ => False
set_option maxRecDepth 100000 in
set_option maxHeartbeats 8000000 in
theorem sX_jcalls (pr : Prog) (hpr : Prog.ok pr) (hp : sQ_jcalls [.z pr.ctx, .l pr.l]) (ρ : Env) (g : varsD ρ 0 [.int .i64, .list [some .i8, some .i8, some .i8, some .i8, none, some .i8, some .i8, some .i64, some .i64]] = [.z pr.ctx, .l pr.l]) : sT_jcalls.asks sP_jcalls (fun ρ e => e.D ρ = sF_jcalls [.z pr.ctx, .l pr.l]) ρ fun _ _ => False := by
  simp only [sQ_jcalls, b2i_one, Ins.eta, Prog.eta, insAt_mk] at hp
  have keepg := g
  simp only [varsD, varD, List.cons.injEq, Dt.z.injEq, Dt.l.injEq, b2i_eq_iff, Nat.reduceAdd, and_true] at g
  simp only [sT_jcalls, sP_jcalls, sF_jcheck, sV_jcheck, sF_jcalls, sV_jcalls, sQ_jcheck, Tr.asks, upd_same, okDs, okD, eqs, E.I, E.B, E.L, E.R, E.D, E.vs, dI, dB, dL, varD, varsD, List.getElem?_cons_zero, List.getElem?_cons_succ, List.cons_append, List.nil_append, Nat.zero_add, Nat.add_zero, Nat.reduceAdd, and_true, true_and, b2i_one, -eq_self, Ins.eta, Prog.eta, insAt_mk, g]
  obtain ⟨k0_i0, k0_l1⟩ := g
  refine ⟨?_, ?_⟩
  · exact hp
  intro e; have k0_i3 : ρ.i 3 = (icheck pr).2 := e.2; (try simp only [e, Ins.eta, Prog.eta, insAt_mk, -eq_self]); clear e
  refine ⟨fun ds => ∃ n : Nat, ds = [.z (n : Int), .l (rowsN (calN pr n))] ∧ n ≤ pr.l.length ∧ (n = 0 ∨ (icheck pr).2 = 0), fun ds => pr.l.length - (dI ds 0).toNat, ⟨0, rfl, Nat.zero_le _, .inl rfl⟩, ?_⟩
  intro ρ1 ha1 _ hi1
  obtain ⟨n, hds, hn, h0⟩ := hi1
  simp only [List.cons.injEq, Dt.z.injEq, Dt.l.injEq, b2i_eq_iff, and_true] at hds
  obtain ⟨k1_i4, k1_l5⟩ := hds
  have k1_i0 : ρ1.i 0 = _ := (ha1 0 (by decide)).1.symm.trans k0_i0
  have k1_l1 : ρ1.l 1 = _ := (ha1 1 (by decide)).2.2.symm.trans k0_l1
  have k1_i3 : ρ1.i 3 = _ := (ha1 3 (by decide)).1.symm.trans k0_i3
  simp only [k1_i0, k1_l1, k1_i3, k1_i4, k1_l5, insAt_mk, -eq_self]
  refine ⟨fun c0 => ?_, fun c0 => ?_⟩
  refine ⟨fun c1 => ?_, fun c1 => ?_⟩
  refine ⟨fun c2 => ?_, fun c2 => ?_⟩
  · exact absurd (of_decide_eq_true c2) (by omega)
  refine ⟨fun c3 => ?_, fun c3 => ?_⟩
  refine ⟨fun c4 => ?_, fun c4 => ?_⟩
  · have hn2 := Int.ofNat_lt.1 (of_decide_eq_true c0)
    rw [rowsN_app, ← calN_y c3, addN hn2 hp]
    exact ⟨⟨n + 1, rfl, hn2, .inr (eqI c1)⟩, by show pr.l.length - (((n + 1 : Nat) : Int)).toNat < pr.l.length - ((n : Int)).toNat; omega⟩
  · have q := of_decide_eq_false c4
    rw [rowsN_len] at q
    have := calN_len pr n
    have hn2 := Int.ofNat_lt.1 (of_decide_eq_true c0)
    have z := (icheck_ok hp (eqI c1)).1.2.2
    omega
  · have hn2 := Int.ofNat_lt.1 (of_decide_eq_true c0)
    rw [← calN_n c3, addN hn2 hp]
    exact ⟨⟨n + 1, rfl, hn2, .inr (eqI c1)⟩, by show pr.l.length - (((n + 1 : Nat) : Int)).toNat < pr.l.length - ((n : Int)).toNat; omega⟩
  · obtain rfl : n = 0 := h0.elim id fun h => (neI c1 h).elim
    rw [lcalls_n (neI c1)]; try rfl
  · have hnl : n = pr.l.length := by have := of_decide_eq_false c0; omega
    rcases h0 with h0 | h0
    · by_cases he : (icheck pr).2 = 0
      · rw [lcalls_y he, hnl]
      · rw [lcalls_n he, h0]; try rfl
    · rw [lcalls_y h0, hnl]
theorem sK_jcalls {sp : Spec} {key : Nat} (hF : sp.F key = sF_jcalls) (hP : sp.pre key = sQ_jcalls) : SmOk Try.prog sp (sM_jcalls key) :=
  fun_ok (s := sM_jcalls key) hF hP (by kernel_rfl) tysok_LiV (smc (sK_jcheck rfl rfl) sm0) Try.func24 fn0 sR_jcalls (.inr (fun xs h L hL => by unfold sQ_jcalls at h; split at h <;> first | exact h.elim | (simp at hL; subst hL; exact h))) (fun x0 gx0 x1 gx1 hp ρ g => sX_jcalls ⟨x0, x1⟩ ⟨gx0, gx1⟩ hp ρ g)
def sM_lcross (key : Nat) : Sm := ⟨25, key, [.agg kProg, .one (.int .i64)], [.one .bool], false⟩
def sV_lcross (pr : Prog) (r : Int) : List Dt := [.z (b2i (lcross pr r))]
def sF_lcross : List Dt → List Dt
  | [.z x0, .l x1, .z x2] => sV_lcross ⟨x0, x1⟩ x2
  | _ => []
def sT_lcross : Tr :=
(.call 0 ([.sl [some .i64] 3] ++ [.sl [some .i64] 3] ++ [.int .i64]) (.cons (.var 0) (.consl (.lvar 1) .nil)) 3
(.br (.eq (.var 5) (.lit 0))
(.br (.lt (.var 2) (.lit 0))
(.leaf (.consb (.tt false) .nil))
(.br (.lt (.var 2) (.lit 11))
(.call 1 ([.sl [some .i64] 3]) (.cons (.var 0) (.consl (.lvar 1) .nil)) 6
(.loop 0 7 [.int .i64] (.cons (.lit 0) .nil)
(.br (.lt (.var 7) (.len (.lvar 6)))
(.br (.lt (.var 7) (.lit 0))
.panic
(.br (.lt (.get (.lvar 6) (.var 7) 0) (.lit 0))
.panic
(.br (.lt (.get (.lvar 6) (.var 7) 0) (.len (.lvar 3)))
(.br (.lt (.get (.lvar 6) (.var 7) 0) (.len (.lvar 4)))
(.br (.lt (.get (.lvar 6) (.var 7) 0) (.len (.lvar 1)))
(.call 2 ([.int .i64]) (.cons (.get (.lvar 1) (.get (.lvar 6) (.var 7) 0) 0) (.cons (.get (.lvar 1) (.get (.lvar 6) (.var 7) 0) 1) (.cons (.get (.lvar 1) (.get (.lvar 6) (.var 7) 0) 2) (.cons (.get (.lvar 1) (.get (.lvar 6) (.var 7) 0) 3) (.consb (.getb (.lvar 1) (.get (.lvar 6) (.var 7) 0) 4) (.cons (.get (.lvar 1) (.get (.lvar 6) (.var 7) 0) 5) (.cons (.get (.lvar 1) (.get (.lvar 6) (.var 7) 0) 6) (.cons (.get (.lvar 1) (.get (.lvar 6) (.var 7) 0) 7) (.cons (.get (.lvar 1) (.get (.lvar 6) (.var 7) 0) 8) .nil))))))))) 8
(.br (.eq (.bin .and .i64 (.bin .shr .i64 (.bin .andNot .i64 (.bin .and .i64 (.get (.lvar 3) (.get (.lvar 6) (.var 7) 0) 0) (.get (.lvar 4) (.get (.lvar 6) (.var 7) 0) 0)) (.var 8)) (.var 2)) (.lit 1)) (.lit 1))
(.leaf (.consb (.tt true) .nil))
(.next 0 (.cons (.bin .add .i64 (.var 7) (.lit 1)) .nil))))
.panic)
.panic)
.panic)))
(.leaf (.consb (.tt false) .nil)))))
(.leaf (.consb (.tt false) .nil))))
(.leaf (.consb (.tt false) .nil))))
def sP_lcross : Spec := ⟨fun k => match k with | 0 => sF_lrun | 1 => sF_lcalls | 2 => sF_vwr | _ => fun _ => [], fun k => match k with | 0 => sQ_lrun | 1 => sQ_lcalls | _ => fun _ => True⟩
set_option maxRecDepth 100000 in
theorem sR_lcross : treeIs tys_LiV [sM_lrun 0, sM_lcalls 1, sM_vwr 2] [] [(5, [.tmpI 29 .i64, .top 30, .top 31, .top 32, .top 9, .top 33, .top 34, .top 35, .top 36, .top 37, .top 38, .top 39, .top 40, .top 41, .top 42, .top 43, .top 44, .top 45, .top 46, .top 47, .top 48, .top 49, .top 50, .top 51, .top 52, .top 4, .top 53])] [] 200 Try.f25 [.agg kProg, .one (.int .i64)] [.one .bool] false [.int .i64, .list [some .i8, some .i8, some .i8, some .i8, none, some .i8, some .i8, some .i64, some .i64], .int .i64] sT_lcross := ⟨by kernel_rfl, by kernel_rfl, by kernel_rfl⟩
def sQ_lcross : List Dt → Prop
  | [.z x0, .l x1, .z x2] => let f (pr : Prog) (r : Int) : Prop := pr.l.length ≤ maxLen; f ⟨x0, x1⟩ x2
  | _ => False
set_option maxRecDepth 100000 in
set_option maxHeartbeats 8000000 in
theorem sX_lcross (pr : Prog) (hpr : Prog.ok pr) (r : Int) (hr : inK .i64 r = true) (hp : sQ_lcross [.z pr.ctx, .l pr.l, .z r]) (ρ : Env) (g : varsD ρ 0 [.int .i64, .list [some .i8, some .i8, some .i8, some .i8, none, some .i8, some .i8, some .i64, some .i64], .int .i64] = [.z pr.ctx, .l pr.l, .z r]) : sT_lcross.asks sP_lcross (fun ρ e => e.D ρ = sF_lcross [.z pr.ctx, .l pr.l, .z r]) ρ fun _ _ => False := by
  simp only [sQ_lcross, b2i_one, Ins.eta, Prog.eta, insAt_mk] at hp
  have keepg := g
  simp only [varsD, varD, List.cons.injEq, Dt.z.injEq, Dt.l.injEq, b2i_eq_iff, Nat.reduceAdd, and_true] at g
  simp only [sT_lcross, sP_lcross, sF_lrun, sF_lcalls, sF_vwr, sV_lrun, sV_lcalls, sV_vwr, sF_lcross, sV_lcross, sQ_lrun, sQ_lcalls, Tr.asks, upd_same, okDs, okD, eqs, E.I, E.B, E.L, E.R, E.D, E.vs, dI, dB, dL, varD, varsD, List.getElem?_cons_zero, List.getElem?_cons_succ, List.cons_append, List.nil_append, Nat.zero_add, Nat.add_zero, Nat.reduceAdd, and_true, true_and, b2i_one, -eq_self, Ins.eta, Prog.eta, insAt_mk, g]
  obtain ⟨k0_i0, k0_l1, k0_i2⟩ := g
  refine ⟨?_, ?_⟩
  · exact hp
  intro e; have k0_l3 := e.1; have k0_l4 := e.2.1; (try simp only [e, Ins.eta, Prog.eta, insAt_mk, -eq_self]); clear e
  refine ⟨fun c0 => ?_, fun c0 => ?_⟩
  refine ⟨fun c1 => ?_, fun c1 => ?_⟩
  · rw [lcross_no (fun h => by have := of_decide_eq_true c1; omega)]; try rfl
  refine ⟨fun c2 => ?_, fun c2 => ?_⟩
  refine ⟨?_, ?_⟩
  · exact hp
  intro e; have k0_l6 : ρ.l 6 = lcalls pr := e; (try simp only [e, Ins.eta, Prog.eta, insAt_mk, -eq_self]); clear e
  have hok : (icheck pr).2 = 0 := (lrun_e pr).symm.trans (eqI c0)
  have hr0 : 0 ≤ r := Int.not_lt.1 (of_decide_eq_false c1)
  have hr1 : r < 11 := of_decide_eq_true c2
  have hF := lrun_fix hp hok
  rw [lrun_l hok] at k0_l3 k0_l4
  rw [lcalls_y hok] at k0_l6
  refine ⟨fun ds => ∃ j : Nat, ds = [.z (j : Int)] ∧ j ≤ (calN pr pr.l.length).length ∧ crAny pr r ((calN pr pr.l.length).take j) = false, fun ds => (calN pr pr.l.length).length - (dI ds 0).toNat, ⟨0, rfl, Nat.zero_le _, rfl⟩, ?_⟩
  intro ρ1 ha1 _ hi1
  obtain ⟨j, k1_i7, hj, hn⟩ := hi1
  simp only [List.cons.injEq, Dt.z.injEq, and_true] at k1_i7
  have k1_i0 : ρ1.i 0 = _ := (ha1 0 (by decide)).1.symm.trans k0_i0
  have k1_l1 : ρ1.l 1 = _ := (ha1 1 (by decide)).2.2.symm.trans k0_l1
  have k1_i2 : ρ1.i 2 = _ := (ha1 2 (by decide)).1.symm.trans k0_i2
  have k1_l3 : ρ1.l 3 = _ := (ha1 3 (by decide)).2.2.symm.trans k0_l3
  have k1_l4 : ρ1.l 4 = _ := (ha1 4 (by decide)).2.2.symm.trans k0_l4
  have k1_l6 : ρ1.l 6 = _ := (ha1 6 (by decide)).2.2.symm.trans k0_l6
  simp only [k1_i0, k1_l1, k1_i2, k1_l3, k1_l4, k1_l6, k1_i7, insAt_mk, -eq_self]
  refine ⟨fun c3 => ?_, fun c3 => ?_⟩
  refine ⟨fun c4 => ?_, fun c4 => ?_⟩
  · exact absurd (of_decide_eq_true c4) (by omega)
  refine ⟨fun c5 => ?_, fun c5 => ?_⟩
  · have hj2 := Int.ofNat_lt.1 (of_decide_eq_true c3)
    obtain ⟨x, y1, y2, y3⟩ := call_at hj2
    rw [y2] at c5
    exact absurd (of_decide_eq_true c5) (by omega)
  refine ⟨fun c6 => ?_, fun c6 => ?_⟩
  refine ⟨fun c7 => ?_, fun c7 => ?_⟩
  refine ⟨fun c8 => ?_, fun c8 => ?_⟩
  intro e; (try simp only [e, Ins.eta, Prog.eta, insAt_mk, -eq_self]); clear e
  refine ⟨fun c9 => ?_, fun c9 => ?_⟩
  · have hj2 := Int.ofNat_lt.1 (of_decide_eq_true c3)
    obtain ⟨x, y1, y2, y3⟩ := call_at hj2
    rw [y2] at c9
    rw [lcross_is ⟨hok, hr0, hr1⟩, crAny_y y1 c9]; try rfl
  · have hj2 := Int.ofNat_lt.1 (of_decide_eq_true c3)
    obtain ⟨x, y1, y2, y3⟩ := call_at hj2
    rw [y2] at c9
    have hj3 : j < (calN pr pr.l.length).length := rowsN_len _ ▸ hj2
    have hcl := calN_len pr pr.l.length
    rw [addN hj3 (Nat.le_trans hcl hp)]
    exact ⟨⟨j + 1, rfl, hj3, crAny_step y1 hn c9⟩, by show (calN pr pr.l.length).length - (((j + 1 : Nat) : Int)).toNat < (calN pr pr.l.length).length - ((j : Int)).toNat; omega⟩
  · have hj2 := Int.ofNat_lt.1 (of_decide_eq_true c3)
    obtain ⟨x, y1, y2, y3⟩ := call_at hj2
    rw [y2] at c8
    exact absurd (of_decide_eq_false c8) (by omega)
  · have hj2 := Int.ofNat_lt.1 (of_decide_eq_true c3)
    obtain ⟨x, y1, y2, y3⟩ := call_at hj2
    rw [y2, rows_len, hF.lo] at c7
    exact absurd (of_decide_eq_false c7) (by omega)
  · have hj2 := Int.ofNat_lt.1 (of_decide_eq_true c3)
    obtain ⟨x, y1, y2, y3⟩ := call_at hj2
    rw [y2, rows_len, hF.li] at c6
    exact absurd (of_decide_eq_false c6) (by omega)
  · rw [rowsN_len] at c3
    have hjl : j = (calN pr pr.l.length).length := by have := of_decide_eq_false c3; omega
    rw [hjl, List.take_length] at hn
    rw [lcross_is ⟨hok, hr0, hr1⟩, hn]; try rfl
  · rw [lcross_no (fun h => by have := of_decide_eq_false c2; omega)]; try rfl
  · rw [lcross_no (fun h => neI c0 ((lrun_e pr).trans h.1))]; try rfl
theorem sK_lcross {sp : Spec} {key : Nat} (hF : sp.F key = sF_lcross) (hP : sp.pre key = sQ_lcross) : SmOk Try.prog sp (sM_lcross key) :=
  fun_ok (s := sM_lcross key) hF hP (by kernel_rfl) tysok_LiV (smc (sK_lrun rfl rfl) (smc (sK_lcalls rfl rfl) (smc (sK_vwr rfl) sm0))) Try.func25 fn0 sR_lcross (.inr (fun xs h L hL => by unfold sQ_lcross at h; split at h <;> first | exact h.elim | (simp at hL; subst hL; exact h))) (fun x0 gx0 x1 gx1 x2 gx2 hp ρ g => sX_lcross ⟨x0, x1⟩ ⟨gx0, gx1⟩ x2 gx2 hp ρ g)
def sM_jcross (key : Nat) : Sm := ⟨26, key, [.agg kProg, .one (.int .i64)], [.one .bool], false⟩
def sV_jcross (pr : Prog) (r : Int) : List Dt := [.z (b2i (lcross pr r))]
def sF_jcross : List Dt → List Dt
  | [.z x0, .l x1, .z x2] => sV_jcross ⟨x0, x1⟩ x2
  | _ => []
def sT_jcross : Tr :=
(.br (.lt (.var 2) (.lit 0))
(.leaf (.consb (.tt false) .nil))
(.br (.lt (.var 2) (.lit 11))
(.call 0 ([.sl [some .i64] 3] ++ [.sl [some .i64] 3] ++ [.int .i64]) (.cons (.var 0) (.consl (.lvar 1) .nil)) 3
(.br (.eq (.var 5) (.lit 0))
(.call 1 ([.sl [some .i64] 3]) (.cons (.var 0) (.consl (.lvar 1) .nil)) 6
(.loop 0 7 [.int .i64] (.cons (.lit 0) .nil)
(.br (.lt (.var 7) (.len (.lvar 6)))
(.br (.lt (.var 7) (.lit 0))
.panic
(.br (.lt (.get (.lvar 6) (.var 7) 0) (.lit 0))
.panic
(.br (.lt (.get (.lvar 6) (.var 7) 0) (.len (.lvar 3)))
(.br (.lt (.get (.lvar 6) (.var 7) 0) (.len (.lvar 4)))
(.br (.lt (.get (.lvar 6) (.var 7) 0) (.len (.lvar 1)))
(.call 2 ([.int .i64]) (.cons (.get (.lvar 1) (.get (.lvar 6) (.var 7) 0) 0) (.cons (.get (.lvar 1) (.get (.lvar 6) (.var 7) 0) 1) (.cons (.get (.lvar 1) (.get (.lvar 6) (.var 7) 0) 2) (.cons (.get (.lvar 1) (.get (.lvar 6) (.var 7) 0) 3) (.consb (.getb (.lvar 1) (.get (.lvar 6) (.var 7) 0) 4) (.cons (.get (.lvar 1) (.get (.lvar 6) (.var 7) 0) 5) (.cons (.get (.lvar 1) (.get (.lvar 6) (.var 7) 0) 6) (.cons (.get (.lvar 1) (.get (.lvar 6) (.var 7) 0) 7) (.cons (.get (.lvar 1) (.get (.lvar 6) (.var 7) 0) 8) .nil))))))))) 8
(.br (.eq (.bin .and .i64 (.bin .shr .i64 (.bin .andNot .i64 (.bin .and .i64 (.get (.lvar 3) (.get (.lvar 6) (.var 7) 0) 0) (.get (.lvar 4) (.get (.lvar 6) (.var 7) 0) 0)) (.var 8)) (.conv .u64 (.var 2))) (.lit 1)) (.lit 1))
(.leaf (.consb (.tt true) .nil))
(.next 0 (.cons (.bin .add .i64 (.var 7) (.lit 1)) .nil))))
.panic)
.panic)
.panic)))
(.leaf (.consb (.tt false) .nil)))))
(.leaf (.consb (.tt false) .nil))))
(.leaf (.consb (.tt false) .nil))))
def sP_jcross : Spec := ⟨fun k => match k with | 0 => sF_jrun | 1 => sF_jcalls | 2 => sF_jwr | _ => fun _ => [], fun k => match k with | 0 => sQ_jrun | 1 => sQ_jcalls | _ => fun _ => True⟩
set_option maxRecDepth 100000 in
theorem sR_jcross : treeIs tys_LiV [sM_jrun 0, sM_jcalls 1, sM_jwr 2] [] [(8, [.tmpI 9 .i64, .top 28, .top 29, .top 30, .top 31, .top 34, .top 35, .top 36, .top 37, .top 10, .top 38, .top 39, .top 40, .top 41, .top 42, .top 43, .top 44, .top 45, .top 46, .top 47, .top 48, .top 49, .top 50, .top 51, .top 52, .top 53, .top 11, .top 54, .top 55, .top 56, .top 57, .top 58, .top 59, .top 4, .top 32, .top 33])] [] 200 Try.f26 [.agg kProg, .one (.int .i64)] [.one .bool] false [.int .i64, .list [some .i8, some .i8, some .i8, some .i8, none, some .i8, some .i8, some .i64, some .i64], .int .i64] sT_jcross := ⟨by kernel_rfl, by kernel_rfl, by kernel_rfl⟩
def sQ_jcross : List Dt → Prop
  | [.z x0, .l x1, .z x2] => let f (pr : Prog) (r : Int) : Prop := pr.l.length ≤ maxLen; f ⟨x0, x1⟩ x2
  | _ => False
set_option maxRecDepth 100000 in
set_option maxHeartbeats 8000000 in
theorem sX_jcross (pr : Prog) (hpr : Prog.ok pr) (r : Int) (hr : inK .i64 r = true) (hp : sQ_jcross [.z pr.ctx, .l pr.l, .z r]) (ρ : Env) (g : varsD ρ 0 [.int .i64, .list [some .i8, some .i8, some .i8, some .i8, none, some .i8, some .i8, some .i64, some .i64], .int .i64] = [.z pr.ctx, .l pr.l, .z r]) : sT_jcross.asks sP_jcross (fun ρ e => e.D ρ = sF_jcross [.z pr.ctx, .l pr.l, .z r]) ρ fun _ _ => False := by
  simp only [sQ_jcross, b2i_one, Ins.eta, Prog.eta, insAt_mk] at hp
  have keepg := g
  simp only [varsD, varD, List.cons.injEq, Dt.z.injEq, Dt.l.injEq, b2i_eq_iff, Nat.reduceAdd, and_true] at g
  simp only [sT_jcross, sP_jcross, sF_jrun, sF_jcalls, sF_jwr, sV_jrun, sV_jcalls, sV_jwr, sF_jcross, sV_jcross, sQ_jrun, sQ_jcalls, Tr.asks, upd_same, okDs, okD, eqs, E.I, E.B, E.L, E.R, E.D, E.vs, dI, dB, dL, varD, varsD, List.getElem?_cons_zero, List.getElem?_cons_succ, List.cons_append, List.nil_append, Nat.zero_add, Nat.add_zero, Nat.reduceAdd, and_true, true_and, b2i_one, -eq_self, Ins.eta, Prog.eta, insAt_mk, g]
  obtain ⟨k0_i0, k0_l1, k0_i2⟩ := g
  refine ⟨fun c0 => ?_, fun c0 => ?_⟩
  · rw [lcross_no (fun h => by have := of_decide_eq_true c0; omega)]; try rfl
  refine ⟨fun c1 => ?_, fun c1 => ?_⟩
  refine ⟨?_, ?_⟩
  · exact hp
  intro e; have k0_l3 := e.1; have k0_l4 := e.2.1; (try simp only [e, Ins.eta, Prog.eta, insAt_mk, -eq_self]); clear e
  refine ⟨fun c2 => ?_, fun c2 => ?_⟩
  refine ⟨?_, ?_⟩
  · exact hp
  intro e; have k0_l6 : ρ.l 6 = lcalls pr := e; (try simp only [e, Ins.eta, Prog.eta, insAt_mk, -eq_self]); clear e
  have hok : (icheck pr).2 = 0 := (lrun_e pr).symm.trans (eqI c2)
  have hr0 : 0 ≤ r := Int.not_lt.1 (of_decide_eq_false c0)
  have hr1 : r < 11 := of_decide_eq_true c1
  have hF := lrun_fix hp hok
  rw [lrun_l hok] at k0_l3 k0_l4
  rw [lcalls_y hok] at k0_l6
  refine ⟨fun ds => ∃ j : Nat, ds = [.z (j : Int)] ∧ j ≤ (calN pr pr.l.length).length ∧ crAny pr r ((calN pr pr.l.length).take j) = false, fun ds => (calN pr pr.l.length).length - (dI ds 0).toNat, ⟨0, rfl, Nat.zero_le _, rfl⟩, ?_⟩
  intro ρ1 ha1 _ hi1
  obtain ⟨j, k1_i7, hj, hn⟩ := hi1
  simp only [List.cons.injEq, Dt.z.injEq, and_true] at k1_i7
  have k1_i0 : ρ1.i 0 = _ := (ha1 0 (by decide)).1.symm.trans k0_i0
  have k1_l1 : ρ1.l 1 = _ := (ha1 1 (by decide)).2.2.symm.trans k0_l1
  have k1_i2 : ρ1.i 2 = _ := (ha1 2 (by decide)).1.symm.trans k0_i2
  have k1_l3 : ρ1.l 3 = _ := (ha1 3 (by decide)).2.2.symm.trans k0_l3
  have k1_l4 : ρ1.l 4 = _ := (ha1 4 (by decide)).2.2.symm.trans k0_l4
  have k1_l6 : ρ1.l 6 = _ := (ha1 6 (by decide)).2.2.symm.trans k0_l6
  simp only [k1_i0, k1_l1, k1_i2, k1_l3, k1_l4, k1_l6, k1_i7, insAt_mk, -eq_self]
  refine ⟨fun c3 => ?_, fun c3 => ?_⟩
  refine ⟨fun c4 => ?_, fun c4 => ?_⟩
  · exact absurd (of_decide_eq_true c4) (by omega)
  refine ⟨fun c5 => ?_, fun c5 => ?_⟩
  · have hj2 := Int.ofNat_lt.1 (of_decide_eq_true c3)
    obtain ⟨x, y1, y2, y3⟩ := call_at hj2
    rw [y2] at c5
    exact absurd (of_decide_eq_true c5) (by omega)
  refine ⟨fun c6 => ?_, fun c6 => ?_⟩
  refine ⟨fun c7 => ?_, fun c7 => ?_⟩
  refine ⟨fun c8 => ?_, fun c8 => ?_⟩
  intro e; (try simp only [e, Ins.eta, Prog.eta, insAt_mk, -eq_self]); clear e
  refine ⟨fun c9 => ?_, fun c9 => ?_⟩
  · have hj2 := Int.ofNat_lt.1 (of_decide_eq_true c3)
    obtain ⟨x, y1, y2, y3⟩ := call_at hj2
    rw [y2] at c9
    have e0 : IntKind.u64.wrap r = r := wrapU hr0 hr1
    simp only [e0] at c9
    rw [lcross_is ⟨hok, hr0, hr1⟩, crAny_y y1 c9]; try rfl
  · have hj2 := Int.ofNat_lt.1 (of_decide_eq_true c3)
    obtain ⟨x, y1, y2, y3⟩ := call_at hj2
    rw [y2] at c9
    have e0 : IntKind.u64.wrap r = r := wrapU hr0 hr1
    simp only [e0] at c9
    have hj3 : j < (calN pr pr.l.length).length := rowsN_len _ ▸ hj2
    have hcl := calN_len pr pr.l.length
    rw [addN hj3 (Nat.le_trans hcl hp)]
    exact ⟨⟨j + 1, rfl, hj3, crAny_step y1 hn c9⟩, by show (calN pr pr.l.length).length - (((j + 1 : Nat) : Int)).toNat < (calN pr pr.l.length).length - ((j : Int)).toNat; omega⟩
  · have hj2 := Int.ofNat_lt.1 (of_decide_eq_true c3)
    obtain ⟨x, y1, y2, y3⟩ := call_at hj2
    rw [y2] at c8
    exact absurd (of_decide_eq_false c8) (by omega)
  · have hj2 := Int.ofNat_lt.1 (of_decide_eq_true c3)
    obtain ⟨x, y1, y2, y3⟩ := call_at hj2
    rw [y2, rows_len, hF.lo] at c7
    exact absurd (of_decide_eq_false c7) (by omega)
  · have hj2 := Int.ofNat_lt.1 (of_decide_eq_true c3)
    obtain ⟨x, y1, y2, y3⟩ := call_at hj2
    rw [y2, rows_len, hF.li] at c6
    exact absurd (of_decide_eq_false c6) (by omega)
  · rw [rowsN_len] at c3
    have hjl : j = (calN pr pr.l.length).length := by have := of_decide_eq_false c3; omega
    rw [hjl, List.take_length] at hn
    rw [lcross_is ⟨hok, hr0, hr1⟩, hn]; try rfl
  · rw [lcross_no (fun h => neI c2 ((lrun_e pr).trans h.1))]; try rfl
  · rw [lcross_no (fun h => by have := of_decide_eq_false c1; omega)]; try rfl
theorem sK_jcross {sp : Spec} {key : Nat} (hF : sp.F key = sF_jcross) (hP : sp.pre key = sQ_jcross) : SmOk Try.prog sp (sM_jcross key) :=
  fun_ok (s := sM_jcross key) hF hP (by kernel_rfl) tysok_LiV (smc (sK_jrun rfl rfl) (smc (sK_jcalls rfl rfl) (smc (sK_jwr rfl) sm0))) Try.func26 fn0 sR_jcross (.inr (fun xs h L hL => by unfold sQ_jcross at h; split at h <;> first | exact h.elim | (simp at hL; subst hL; exact h))) (fun x0 gx0 x1 gx1 x2 gx2 hp ρ g => sX_jcross ⟨x0, x1⟩ ⟨gx0, gx1⟩ x2 gx2 hp ρ g)
def sM_ints (key : Nat) : Sm := ⟨21, key, [.one (.sl [some .i64] 3), .one (.sl [some .i64] 3)], [.one .bool], false⟩
def sV_ints (a : List (List Int)) (b : List (List Int)) : List Dt := [.z (b2i (decide (a = b)))]
def sF_ints : List Dt → List Dt
  | [.l x0, .l x1] => sV_ints x0 x1
  | _ => []
def sT_ints : Tr :=
(.br (.eq (.len (.lvar 0)) (.len (.lvar 1)))
(.loop 0 2 [.int .i64] (.cons (.lit 0) .nil)
(.br (.lt (.var 2) (.len (.lvar 0)))
(.br (.lt (.var 2) (.lit 0))
.panic
(.br (.lt (.var 2) (.len (.lvar 1)))
(.br (.eq (.get (.lvar 0) (.var 2) 0) (.get (.lvar 1) (.var 2) 0))
(.next 0 (.cons (.bin .add .i64 (.var 2) (.lit 1)) .nil))
(.leaf (.consb (.tt false) .nil)))
.panic))
(.leaf (.consb (.tt true) .nil))))
(.leaf (.consb (.tt false) .nil)))
def sP_ints : Spec := ⟨fun k => match k with | _ => fun _ => [], fun k => match k with | _ => fun _ => True⟩
set_option maxRecDepth 100000 in
theorem sR_ints : treeIs tys_LiV [] [] [(4, [.tmpI 5 .i64, .top 11, .top 12, .top 13, .top 14, .top 17, .top 18, .top 19, .top 20, .top 21, .top 22, .top 23, .top 24, .top 25, .top 4, .top 15, .top 16])] [] 200 Try.f21 [.one (.sl [some .i64] 3), .one (.sl [some .i64] 3)] [.one .bool] false [.list [some .i64], .list [some .i64]] sT_ints := ⟨by kernel_rfl, by kernel_rfl, by kernel_rfl⟩
def sQ_ints : List Dt → Prop
  | [.l x0, .l x1] => let f (a : List (List Int)) (b : List (List Int)) : Prop := (a.length ≤ maxLen ∧ b.length ≤ maxLen); f x0 x1
  | _ => False
set_option maxRecDepth 100000 in
set_option maxHeartbeats 8000000 in
theorem sX_ints (a : List (List Int)) (ha : RowsIn [some .i64] a) (b : List (List Int)) (hb : RowsIn [some .i64] b) (hp : sQ_ints [.l a, .l b]) (ρ : Env) (g : varsD ρ 0 [.list [some .i64], .list [some .i64]] = [.l a, .l b]) : sT_ints.asks sP_ints (fun ρ e => e.D ρ = sF_ints [.l a, .l b]) ρ fun _ _ => False := by
  simp only [sQ_ints, b2i_one, Ins.eta, Prog.eta, insAt_mk] at hp
  have keepg := g
  simp only [varsD, varD, List.cons.injEq, Dt.z.injEq, Dt.l.injEq, b2i_eq_iff, Nat.reduceAdd, and_true] at g
  simp only [sT_ints, sP_ints, sF_ints, sV_ints, Tr.asks, upd_same, okDs, okD, eqs, E.I, E.B, E.L, E.R, E.D, E.vs, dI, dB, dL, varD, varsD, List.getElem?_cons_zero, List.getElem?_cons_succ, List.cons_append, List.nil_append, Nat.zero_add, Nat.add_zero, Nat.reduceAdd, and_true, true_and, b2i_one, -eq_self, Ins.eta, Prog.eta, insAt_mk, g]
  obtain ⟨k0_l0, k0_l1⟩ := g
  refine ⟨fun c0 => ?_, fun c0 => ?_⟩
  have hab : a.length = b.length := Int.ofNat.inj (eqI c0)
  refine ⟨fun ds => ∃ j : Nat, ds = [.z (j : Int)] ∧ j ≤ a.length ∧ a.take j = b.take j, fun ds => a.length - (dI ds 0).toNat, ⟨0, rfl, Nat.zero_le _, rfl⟩, ?_⟩
  intro ρ1 ha1 _ hi1
  obtain ⟨j, k1_i2, hj, hn⟩ := hi1
  simp only [List.cons.injEq, Dt.z.injEq, and_true] at k1_i2
  have k1_l0 : ρ1.l 0 = _ := (ha1 0 (by decide)).2.2.symm.trans k0_l0
  have k1_l1 : ρ1.l 1 = _ := (ha1 1 (by decide)).2.2.symm.trans k0_l1
  simp only [k1_l0, k1_l1, k1_i2, insAt_mk, -eq_self]
  refine ⟨fun c1 => ?_, fun c1 => ?_⟩
  refine ⟨fun c2 => ?_, fun c2 => ?_⟩
  · exact absurd (of_decide_eq_true c2) (by omega)
  refine ⟨fun c3 => ?_, fun c3 => ?_⟩
  refine ⟨fun c4 => ?_, fun c4 => ?_⟩
  · have hj2 := Int.ofNat_lt.1 (of_decide_eq_true c1)
    rw [addN hj2 hp.1]
    exact ⟨⟨j + 1, rfl, hj2, take_step ha hb hn hj2 (hab ▸ hj2) (eqI c4)⟩, by show a.length - (((j + 1 : Nat) : Int)).toNat < a.length - ((j : Int)).toNat; omega⟩
  · rw [decide_eq_false (fun h => neI c4 (by rw [h]))]; try rfl
  · have hj2 := Int.ofNat_lt.1 (of_decide_eq_true c1)
    exact absurd (of_decide_eq_false c3) (by omega)
  · rw [decide_eq_true (take_all hn (fun h => of_decide_eq_false c1 (Int.ofNat_lt.2 h)) hab)]; try rfl
  · rw [decide_eq_false (fun h => neI c0 (by rw [h]))]; try rfl
theorem sK_ints {sp : Spec} {key : Nat} (hF : sp.F key = sF_ints) (hP : sp.pre key = sQ_ints) : SmOk Try.prog sp (sM_ints key) :=
  fun_ok (s := sM_ints key) hF hP (by kernel_rfl) tysok_LiV (sm0) Try.func21 fn0 sR_ints (.inr (fun xs h L hL => by unfold sQ_ints at h; split at h <;> first | exact h.elim | (simp at hL; rcases hL with rfl | rfl; exact h.1; exact h.2))) (fun x0 gx0 x1 gx1 hp ρ g => sX_ints x0 gx0 x1 gx1 hp ρ g)
end Go.Proofs.Ytmkaphfdgdkaoaa
