/- The law LiveLeast. -/
import Derived.Test.YtmkaphfdgdkaoaaLiH
import Derived.Test.YtmkaphfdgdkaoaaLiG
import Derived.Test.YtmkaphfdgdkaoaaLiQ
import Derived.Test.YtmkaphfdgdkaoaaProg
import Derived.Laws.Externs
set_option linter.unusedVariables false
set_option linter.unusedSimpArgs false
namespace Go.Proofs.Ytmkaphfdgdkaoaa
open Go.RowKit Go.ChangeShapes Go.WideShapes

def tys_LiI : List (Nat × TI) := [(3, ⟨false, 1, [.int .i64 (.lit 0)], [], none, some .i64, false, false, none, 8, false, none, false⟩),
 (4, ⟨false, 1, [.bool (.tt false)], [], none, none, false, true, none, 1, false, none, false⟩),
 (22, ⟨false, 1, [.nsl], [], none, none, false, false, some 33, 24, false, none, false⟩),
 (24, ⟨true, 2, [.int .i64 (.lit 0), .nsl], [(0, 3), (1, 22)], none, none, false, false, none, 32, false, none, false⟩),
 (27, ⟨false, 1, [.nsl], [], none, none, false, false, some 3, 24, false, none, false⟩),
 (28, ⟨false, 1, [.int .i64 (.lit 0)], [], none, some .i64, false, false, none, 8, false, none, false⟩),
 (31, ⟨false, 1, [.int .i8 (.lit 0)], [], none, some .i8, false, false, none, 1, false, none, false⟩),
 (33, ⟨true, 9, [.int .i8 (.lit 0), .int .i8 (.lit 0), .int .i8 (.lit 0), .int .i8 (.lit 0), .bool (.tt false), .int .i8 (.lit 0), .int .i8 (.lit 0), .int .i64 (.lit 0), .int .i64 (.lit 0)], [(0, 31), (1, 31), (2, 31), (3, 31), (4, 4), (5, 31), (6, 31), (7, 3), (8, 3)], none, none, true, false, none, 24, false, none, false⟩)]
set_option maxRecDepth 100000 in
theorem tysck_LiI : (tys_LiI.all fun p => ckTI Try.prog p.1 p.2) = true := by kernel_rfl
theorem tyseq_LiI : (tys_LiI.all fun p => !p.2.eqok || ((Nat.beq p.1 33 && kindsC p.2.zero z_Ins))) = true := by kernel_rfl
theorem tyskn_LiI : (tys_LiI.all fun p => !p.2.keyok) = true := by kernel_rfl
theorem tysok_LiI : ∀ t i, (t, i) ∈ tys_LiI → TIok Try.prog t i := by
  intro t i h
  refine TIok_of (all_at (f := ckTI Try.prog) tysck_LiI h) (fun he => ?_) (fun he => ?_) (fun he => ?_)
  · have h1 := List.all_eq_true.1 tyseq_LiI (t, i) h
    simp only [he, Bool.not_true, Bool.false_or, Bool.or_eq_true, Bool.and_eq_true] at h1
    have hs := h1.2
    obtain rfl := Nat.eq_of_beq_eq_true h1.1
    exact fun vs us hv hu => eq_Ins vs us (kindsV_of hs hv) (kindsV_of hs hu)
  · have h1 := List.all_eq_true.1 tyseq_LiI (t, i) h
    simp only [he, Bool.not_true, Bool.false_or, Bool.or_eq_true, Bool.and_eq_true] at h1
    have hs := h1.2
    obtain rfl := Nat.eq_of_beq_eq_true h1.1
    exact grd_Ins
  · have h1 := List.all_eq_true.1 tyskn_LiI (t, i) h
    simp [he] at h1
def sM_lleast (key : Nat) : Sm := ⟨3, key, [.agg kProg], [.one .bool], false⟩
def sV_lleast (pr : Prog) : List Dt := [.z (b2i true)]
def sF_lleast : List Dt → List Dt
  | [.z x0, .l x1] => sV_lleast ⟨x0, x1⟩
  | _ => []
def sT_lleast : Tr :=
(.call 0 ([.bool]) (.cons (.var 0) (.consl (.lvar 1) .nil)) 2
(.br (.bvar 2)
(.call 3 ([.bool]) .nil 3
(.leaf (.consb (.bvar 3) .nil)))
(.call 1 ([.sl [some .i64] 3] ++ [.sl [some .i64] 3] ++ [.int .i64]) (.cons (.var 0) (.consl (.lvar 1) .nil)) 3
(.loop 0 6 [.int .i64, .int .i64] (.cons (.lit 0) (.cons (.lit 0) .nil))
(.br (.lt (.var 6) (.len (.lvar 1)))
(.br (.lt (.var 6) (.lit 0))
.panic
(.call 2 ([.int .i64]) (.cons (.get (.lvar 1) (.var 6) 0) (.cons (.get (.lvar 1) (.var 6) 1) (.cons (.get (.lvar 1) (.var 6) 2) (.cons (.get (.lvar 1) (.var 6) 3) (.consb (.getb (.lvar 1) (.var 6) 4) (.cons (.get (.lvar 1) (.var 6) 5) (.cons (.get (.lvar 1) (.var 6) 6) (.cons (.get (.lvar 1) (.var 6) 7) (.cons (.get (.lvar 1) (.var 6) 8) .nil))))))))) 8
(.next 0 (.cons (.bin .add .i64 (.var 6) (.lit 1)) (.cons (.bin .or .i64 (.var 7) (.var 8)) .nil)))))
(.loop 1 8 [.int .i64] (.cons (.lit 0) .nil)
(.br (.lt (.var 8) (.len (.lvar 3)))
(.br (.lt (.var 8) (.lit 0))
.panic
(.br (.eq (.bin .andNot .i64 (.get (.lvar 3) (.var 8) 0) (.var 7)) (.lit 0))
(.next 1 (.cons (.bin .add .i64 (.var 8) (.lit 1)) .nil))
(.leaf (.consb (.tt false) .nil))))
(.br (.eq (.var 5) (.lit 0))
(.call 3 ([.bool]) .nil 9
(.leaf (.consb (.bvar 9) .nil)))
(.br (.eq (.len (.lvar 3)) (.lit 0))
(.call 3 ([.bool]) .nil 9
(.leaf (.consb (.bvar 9) .nil)))
(.leaf (.consb (.tt false) .nil)))))))))))
def sP_lleast : Spec := ⟨fun k => match k with | 0 => sF_lgreat | 1 => sF_lrun | 2 => sF_vrd | 3 => sF_lwakes | _ => fun _ => [], fun k => match k with | 0 => sQ_lgreat | 1 => sQ_lrun | _ => fun _ => True⟩
set_option maxRecDepth 100000 in
theorem sR_lleast : treeIs tys_LiI [sM_lgreat 0, sM_lrun 1, sM_vrd 2, sM_lwakes 3] [] [(6, [.tmpI 23 .i64, .tmpI 6 .i64, .top 24, .top 25, .top 26, .top 8, .top 27, .top 28, .top 29, .top 30, .top 31]), (11, [.tmpI 34 .i64, .top 35, .top 36, .top 37, .top 10, .top 38, .top 39, .top 40, .top 41, .top 2, .top 42])] [] 200 Try.f3 [.agg kProg] [.one .bool] false [.int .i64, .list [some .i8, some .i8, some .i8, some .i8, none, some .i8, some .i8, some .i64, some .i64]] sT_lleast := ⟨by kernel_rfl, by kernel_rfl, by kernel_rfl⟩
set_option maxRecDepth 100000 in
set_option maxHeartbeats 8000000 in
theorem sX_lleast (pr : Prog) (hpr : Prog.ok pr) (ρ : Env) (g : varsD ρ 0 [.int .i64, .list [some .i8, some .i8, some .i8, some .i8, none, some .i8, some .i8, some .i64, some .i64]] = [.z pr.ctx, .l pr.l]) : sT_lleast.asks sP_lleast (fun ρ e => e.D ρ = sF_lleast [.z pr.ctx, .l pr.l]) ρ fun _ _ => False := by
  have keepg := g
  simp only [varsD, varD, List.cons.injEq, Dt.z.injEq, Dt.l.injEq, b2i_eq_iff, Nat.reduceAdd, and_true] at g
  simp only [sT_lleast, sP_lleast, sF_lgreat, sF_lrun, sF_vrd, sF_lwakes, sV_lgreat, sV_lrun, sV_vrd, sF_lleast, sV_lleast, sQ_lgreat, sQ_lrun, Tr.asks, upd_same, okDs, okD, eqs, E.I, E.B, E.L, E.R, E.D, E.vs, dI, dB, dL, varD, varsD, List.getElem?_cons_zero, List.getElem?_cons_succ, List.cons_append, List.nil_append, Nat.zero_add, Nat.add_zero, Nat.reduceAdd, and_true, true_and, b2i_one, -eq_self, Ins.eta, Prog.eta, insAt_mk, g]
  obtain ⟨k0_i0, k0_l1⟩ := g
  refine ⟨?_, ?_⟩
  · exact hpr.2.len
  intro e; (try simp only [e, Ins.eta, Prog.eta, insAt_mk, -eq_self]); clear e
  refine ⟨fun c0 => ?_, fun c0 => ?_⟩
  intro e; (try simp only [e, Ins.eta, Prog.eta, insAt_mk, -eq_self]); clear e
  · rfl
  refine ⟨?_, ?_⟩
  · exact hpr.2.len
  intro e; have k0_l3 := e.1; have k0_l4 := e.2.1; have k0_i5 := e.2.2; (try simp only [e, Ins.eta, Prog.eta, insAt_mk, -eq_self]); clear e
  have hp : pr.l.length ≤ maxLen := hpr.2.len
  refine ⟨fun ds => ∃ (m : Nat), ds = [.z (m : Int), .z (rdB pr m).toInt] ∧ m ≤ pr.l.length, fun ds => pr.l.length - (dI ds 0).toNat, ⟨0, rfl, Nat.zero_le _⟩, ?_⟩
  intro ρ1 ha1 _ hi1
  obtain ⟨m, hds, hm⟩ := hi1
  simp only [List.cons.injEq, Dt.z.injEq, Dt.l.injEq, b2i_eq_iff, and_true] at hds
  obtain ⟨k1_i6, k1_i7⟩ := hds
  have k1_i0 : ρ1.i 0 = _ := (ha1 0 (by decide)).1.symm.trans k0_i0
  have k1_l1 : ρ1.l 1 = _ := (ha1 1 (by decide)).2.2.symm.trans k0_l1
  have k1_l3 : ρ1.l 3 = _ := (ha1 3 (by decide)).2.2.symm.trans k0_l3
  have k1_l4 : ρ1.l 4 = _ := (ha1 4 (by decide)).2.2.symm.trans k0_l4
  have k1_i5 : ρ1.i 5 = _ := (ha1 5 (by decide)).1.symm.trans k0_i5
  simp only [k1_i0, k1_l1, k1_l3, k1_l4, k1_i5, k1_i6, k1_i7, insAt_mk, -eq_self]
  refine ⟨fun c1 => ?_, fun c1 => ?_⟩
  refine ⟨fun c2 => ?_, fun c2 => ?_⟩
  · exact absurd (of_decide_eq_true c2) (by omega)
  intro e; (try simp only [e, Ins.eta, Prog.eta, insAt_mk, -eq_self]); clear e
  · have hm2 := Int.ofNat_lt.1 (of_decide_eq_true c1)
    rw [rdB_step]
    exact ⟨⟨m + 1, (by rw [addN hm2 hp]; try rfl), hm2⟩, by rw [addN hm2 hp]; show pr.l.length - (((m + 1 : Nat) : Int)).toNat < pr.l.length - ((m : Int)).toNat; omega⟩
  have hmn : m = pr.l.length := by have := of_decide_eq_false c1; omega
  have hlen := lrun_len hp
  refine ⟨fun ds => ∃ (j : Nat), ds = [.z (j : Int)] ∧ j ≤ (lrun pr).1.1.length, fun ds => (lrun pr).1.1.length - (dI ds 0).toNat, ⟨0, rfl, Nat.zero_le _⟩, ?_⟩
  intro ρ2 ha2 _ hi2
  obtain ⟨j, k2_i8, hj⟩ := hi2
  simp only [List.cons.injEq, Dt.z.injEq, and_true] at k2_i8
  have k2_i0 : ρ2.i 0 = _ := (ha2 0 (by decide)).1.symm.trans k1_i0
  have k2_l1 : ρ2.l 1 = _ := (ha2 1 (by decide)).2.2.symm.trans k1_l1
  have k2_l3 : ρ2.l 3 = _ := (ha2 3 (by decide)).2.2.symm.trans k1_l3
  have k2_l4 : ρ2.l 4 = _ := (ha2 4 (by decide)).2.2.symm.trans k1_l4
  have k2_i5 : ρ2.i 5 = _ := (ha2 5 (by decide)).1.symm.trans k1_i5
  have k2_i7 : ρ2.i 7 = _ := (ha2 7 (by decide)).1.symm.trans k1_i7
  simp only [k2_i0, k2_l1, k2_l3, k2_l4, k2_i5, k2_i7, k2_i8, insAt_mk, -eq_self]
  refine ⟨fun c3 => ?_, fun c3 => ?_⟩
  refine ⟨fun c4 => ?_, fun c4 => ?_⟩
  · exact absurd (of_decide_eq_true c4) (by omega)
  refine ⟨fun c5 => ?_, fun c5 => ?_⟩
  · have hj2 := Int.ofNat_lt.1 (of_decide_eq_true c3)
    exact ⟨⟨j + 1, (by rw [addN hj2 (Nat.le_trans hlen hp)]; try rfl), hj2⟩, by rw [addN hj2 (Nat.le_trans hlen hp)]; show (lrun pr).1.1.length - (((j + 1 : Nat) : Int)).toNat < (lrun pr).1.1.length - ((j : Int)).toNat; omega⟩
  · have hj2 := Int.ofNat_lt.1 (of_decide_eq_true c3)
    rw [hmn] at c5
    exact absurd (least_at hp hj2) (neI c5)
  refine ⟨fun c6 => ?_, fun c6 => ?_⟩
  intro e; (try simp only [e, Ins.eta, Prog.eta, insAt_mk, -eq_self]); clear e
  · rfl
  refine ⟨fun c7 => ?_, fun c7 => ?_⟩
  intro e; (try simp only [e, Ins.eta, Prog.eta, insAt_mk, -eq_self]); clear e
  · rfl
  · exact absurd (by rw [lrun_nil (neI c6)]; rfl) (neI c7)
theorem sC_lleast (xs : List Dt) (vals : List Value) (w : World) (hw : shRel w [.agg kProg] xs vals) : Calls Try.prog 3 vals.toArray w fun e w' => ∃ v, e = .returned v ∧ RetOk [.one .bool] false w w' (sF_lleast xs) v :=
  (fun_calls (by kernel_rfl) tysok_LiI (smc (sK_lgreat rfl rfl) (smc (sK_lrun rfl rfl) (smc (sK_vrd rfl) (smc (sK_lwakes rfl) sm0)))) Try.func3 fn0 sR_lleast (pre := fun _ => True) (fun x0 gx0 x1 gx1 hp ρ g => sX_lleast ⟨x0, x1⟩ ⟨gx0, gx1⟩ ρ g) xs vals w hw trivial).2
set_option maxRecDepth 100000 in
set_option maxHeartbeats 8000000 in
theorem law_LiveLeast {H : Type} {enc : TypeId × Value → H} {W : World} {r : Reach} {b0 : Nat} (v0 : Value) (k0 : Value.okWide Try.prog W r b0 24 v0) (d0 : DataW H) (p0 : List MemPlace) (h0 : DataW.Trod enc Try.prog W 0 (fun _ => true) true 24 v0 d0 p0) (_ : ∀ x ∈ p0, x.block < W.heap.size) :
    Calls Try.prog 3 #[v0] W fun e W' => e = .returned (.bool true) ∧ Below W.heap.size W W' := by
  obtain ⟨a0, q0, s0, rfl, w0, n0, m0, o0, l0⟩ := Prog.of_arg k0 h0
  refine (sC_lleast (.z a0 :: ( .l q0 :: ([]))) _ W ⟨_, _, _, rfl, ⟨_, _, _, rfl, ⟨_, rfl, rfl, w0⟩, ⟨_, _, _, rfl, ⟨_, _, rfl, rfl, n0, m0, o0, l0⟩, ⟨rfl, rfl⟩⟩⟩, ⟨rfl, rfl⟩⟩).mono fun e W' ⟨v, he, hr⟩ => ?_
  have hv : v = .bool true := RetOk.says hr
  rw [he, hv]
  exact ⟨rfl, hr.ext⟩
end Go.Proofs.Ytmkaphfdgdkaoaa
