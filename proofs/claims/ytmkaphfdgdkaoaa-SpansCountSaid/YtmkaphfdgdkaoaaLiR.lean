/- Contract of latheref19.Run. -/
import Derived.Test.YtmkaphfdgdkaoaaLiL
import Derived.Test.YtmkaphfdgdkaoaaLiM
import Derived.Test.YtmkaphfdgdkaoaaLiO
import Derived.Test.YtmkaphfdgdkaoaaProg
import Derived.Laws.Externs
set_option linter.unusedVariables false
set_option linter.unusedSimpArgs false
namespace Go.Proofs.Ytmkaphfdgdkaoaa
open Go.RowKit Go.ChangeShapes Go.WideShapes

def tys_LiR : List (Nat × TI) := [(3, ⟨false, 1, [.int .i64 (.lit 0)], [], none, some .i64, false, false, none, 8, false, none, false⟩),
 (4, ⟨false, 1, [.bool (.tt false)], [], none, none, false, true, none, 1, false, none, false⟩),
 (22, ⟨false, 1, [.nsl], [], none, none, false, false, some 33, 24, false, none, false⟩),
 (24, ⟨true, 2, [.int .i64 (.lit 0), .nsl], [(0, 3), (1, 22)], none, none, false, false, none, 32, false, none, false⟩),
 (27, ⟨false, 1, [.nsl], [], none, none, false, false, some 3, 24, false, none, false⟩),
 (28, ⟨false, 1, [.int .i64 (.lit 0)], [], none, some .i64, false, false, none, 8, false, none, false⟩),
 (31, ⟨false, 1, [.int .i8 (.lit 0)], [], none, some .i8, false, false, none, 1, false, none, false⟩),
 (33, ⟨true, 9, [.int .i8 (.lit 0), .int .i8 (.lit 0), .int .i8 (.lit 0), .int .i8 (.lit 0), .bool (.tt false), .int .i8 (.lit 0), .int .i8 (.lit 0), .int .i64 (.lit 0), .int .i64 (.lit 0)], [(0, 31), (1, 31), (2, 31), (3, 31), (4, 4), (5, 31), (6, 31), (7, 3), (8, 3)], none, none, true, false, none, 24, false, none, false⟩)]
set_option maxRecDepth 100000 in
theorem tysck_LiR : (tys_LiR.all fun p => ckTI Try.prog p.1 p.2) = true := by kernel_rfl
theorem tyseq_LiR : (tys_LiR.all fun p => !p.2.eqok || ((Nat.beq p.1 33 && kindsC p.2.zero z_Ins))) = true := by kernel_rfl
theorem tyskn_LiR : (tys_LiR.all fun p => !p.2.keyok) = true := by kernel_rfl
theorem tysok_LiR : ∀ t i, (t, i) ∈ tys_LiR → TIok Try.prog t i := by
  intro t i h
  refine TIok_of (all_at (f := ckTI Try.prog) tysck_LiR h) (fun he => ?_) (fun he => ?_) (fun he => ?_)
  · have h1 := List.all_eq_true.1 tyseq_LiR (t, i) h
    simp only [he, Bool.not_true, Bool.false_or, Bool.or_eq_true, Bool.and_eq_true] at h1
    have hs := h1.2
    obtain rfl := Nat.eq_of_beq_eq_true h1.1
    exact fun vs us hv hu => eq_Ins vs us (kindsV_of hs hv) (kindsV_of hs hu)
  · have h1 := List.all_eq_true.1 tyseq_LiR (t, i) h
    simp only [he, Bool.not_true, Bool.false_or, Bool.or_eq_true, Bool.and_eq_true] at h1
    have hs := h1.2
    obtain rfl := Nat.eq_of_beq_eq_true h1.1
    exact grd_Ins
  · have h1 := List.all_eq_true.1 tyskn_LiR (t, i) h
    simp [he] at h1
def sM_jrun (key : Nat) : Sm := ⟨20, key, [.agg kProg], [.one (.sl [some .i64] 3), .one (.sl [some .i64] 3), .one (.int .i64)], true⟩
def sV_jrun (pr : Prog) : List Dt := [.l ((lrun pr).1.1), .l ((lrun pr).1.2), .z ((lrun pr).2)]
def sF_jrun : List Dt → List Dt
  | [.z x0, .l x1] => sV_jrun ⟨x0, x1⟩
  | _ => []
def sT_jrun : Tr :=
(.call 0 ([.int .i64] ++ [.int .i64]) (.cons (.var 0) (.consl (.lvar 1) .nil)) 2
(.br (.eq (.var 3) (.lit 0))
(.br (.lt (.len (.lvar 1)) (.lit 1073741824))
(.loop 0 4 [.bool, .list [some .i64], .list [some .i64]] (.consb (.tt true) (.consl (.lrep (.len (.lvar 1)) (.cons (.lit 0) .nil)) (.consl (.lrep (.len (.lvar 1)) (.cons (.lit 0) .nil)) .nil)))
(.br (.bvar 4)
(.loop 1 7 [.int .i64, .bool, .list [some .i64], .list [some .i64]] (.cons (.bin .sub .i64 (.len (.lvar 1)) (.lit 1)) (.consb (.tt false) (.consl (.lvar 5) (.consl (.lvar 6) .nil))))
(.br (.lt (.var 7) (.lit 0))
(.next 0 (.consb (.bvar 8) (.consl (.lvar 9) (.consl (.lvar 10) .nil))))
(.call 1 ([.sl [some .i64] 3]) (.cons (.var 0) (.consl (.lvar 1) (.cons (.var 7) .nil))) 11
(.loop 2 12 [.int .i64, .int .i64] (.cons (.lit 0) (.cons (.lit 0) .nil))
(.br (.lt (.var 12) (.len (.lvar 11)))
(.br (.lt (.var 12) (.lit 0))
.panic
(.br (.lt (.get (.lvar 11) (.var 12) 0) (.lit 0))
.panic
(.br (.lt (.get (.lvar 11) (.var 12) 0) (.len (.lvar 9)))
(.next 2 (.cons (.bin .add .i64 (.var 12) (.lit 1)) (.cons (.bin .or .i64 (.var 13) (.get (.lvar 9) (.get (.lvar 11) (.var 12) 0) 0)) .nil)))
.panic)))
(.br (.lt (.var 7) (.len (.lvar 1)))
(.call 3 ([.int .i64]) (.cons (.get (.lvar 1) (.var 7) 0) (.cons (.get (.lvar 1) (.var 7) 1) (.cons (.get (.lvar 1) (.var 7) 2) (.cons (.get (.lvar 1) (.var 7) 3) (.consb (.getb (.lvar 1) (.var 7) 4) (.cons (.get (.lvar 1) (.var 7) 5) (.cons (.get (.lvar 1) (.var 7) 6) (.cons (.get (.lvar 1) (.var 7) 7) (.cons (.get (.lvar 1) (.var 7) 8) .nil))))))))) 14
(.call 2 ([.int .i64]) (.cons (.get (.lvar 1) (.var 7) 0) (.cons (.get (.lvar 1) (.var 7) 1) (.cons (.get (.lvar 1) (.var 7) 2) (.cons (.get (.lvar 1) (.var 7) 3) (.consb (.getb (.lvar 1) (.var 7) 4) (.cons (.get (.lvar 1) (.var 7) 5) (.cons (.get (.lvar 1) (.var 7) 6) (.cons (.get (.lvar 1) (.var 7) 7) (.cons (.get (.lvar 1) (.var 7) 8) .nil))))))))) 15
(.br (.bvar 8)
(.br (.lt (.var 7) (.len (.lvar 9)))
(.br (.lt (.var 7) (.len (.lvar 10)))
(.next 1 (.cons (.bin .sub .i64 (.var 7) (.lit 1)) (.consb (.tt true) (.consl (.lset (.lvar 9) (.var 7) 0 (.bin .or .i64 (.bin .andNot .i64 (.var 13) (.var 14)) (.var 15))) (.consl (.lset (.lvar 10) (.var 7) 0 (.var 13)) .nil)))))
.panic)
.panic)
(.br (.lt (.var 7) (.len (.lvar 9)))
(.br (.eq (.bin .or .i64 (.bin .andNot .i64 (.var 13) (.var 14)) (.var 15)) (.get (.lvar 9) (.var 7) 0))
(.br (.lt (.var 7) (.len (.lvar 10)))
(.next 1 (.cons (.bin .sub .i64 (.var 7) (.lit 1)) (.consb (.not (.eq (.var 13) (.get (.lvar 10) (.var 7) 0))) (.consl (.lset (.lvar 9) (.var 7) 0 (.bin .or .i64 (.bin .andNot .i64 (.var 13) (.var 14)) (.var 15))) (.consl (.lset (.lvar 10) (.var 7) 0 (.var 13)) .nil)))))
.panic)
(.br (.lt (.var 7) (.len (.lvar 10)))
(.next 1 (.cons (.bin .sub .i64 (.var 7) (.lit 1)) (.consb (.tt true) (.consl (.lset (.lvar 9) (.var 7) 0 (.bin .or .i64 (.bin .andNot .i64 (.var 13) (.var 14)) (.var 15))) (.consl (.lset (.lvar 10) (.var 7) 0 (.var 13)) .nil)))))
.panic))
.panic))))
.panic))))))
(.leaf (.consl (.lvar 5) (.consl (.lvar 6) (.cons (.lit 0) .nil))))))
.panic)
(.leaf (.consl .lnil (.consl .lnil (.cons (.var 3) .nil))))))
def sP_jrun : Spec := ⟨fun k => match k with | 0 => sF_jcheck | 1 => sF_jnx | 2 => sF_jrd | 3 => sF_jwr | _ => fun _ => [], fun k => match k with | 0 => sQ_jcheck | 1 => sQ_jnx | _ => fun _ => True⟩
set_option maxRecDepth 100000 in
theorem sR_jrun : treeIs tys_LiR [sM_jcheck 0, sM_jnx 1, sM_jrd 2, sM_jwr 3] [] [(7, [.tmpB 10, .row 2, .row 3, .top 31, .top 32, .top 33, .top 11, .top 34, .top 35, .top 12, .top 38, .top 39, .top 40, .top 13, .top 14, .top 41, .top 42, .top 43, .top 44, .top 47, .top 48, .top 49, .top 50, .top 51, .top 52, .top 53, .top 54, .top 55, .top 45, .top 46, .top 56, .top 57, .top 58, .top 59, .top 60, .top 61, .top 62, .top 63, .top 64, .top 65, .top 66, .top 67, .top 68, .top 69, .top 70, .top 15, .top 71, .top 72, .top 73, .top 74, .top 75, .top 76, .top 77, .top 78, .top 79, .top 80, .top 81, .top 82, .top 83, .top 84, .top 85, .top 86, .top 87, .top 88, .top 89, .top 90, .top 91, .top 92, .top 93, .top 94, .top 95, .top 36, .top 37]), (10, [.tmpI 11 .i64, .tmpB 10, .row 2, .row 3, .top 34, .top 35, .top 12, .top 38, .top 39, .top 40, .top 13, .top 14, .top 41, .top 42, .top 43, .top 44, .top 47, .top 48, .top 49, .top 50, .top 51, .top 52, .top 53, .top 54, .top 55, .top 45, .top 46, .top 56, .top 57, .top 58, .top 59, .top 60, .top 61, .top 62, .top 63, .top 64, .top 65, .top 66, .top 67, .top 68, .top 69, .top 70, .top 15, .top 71, .top 72, .top 73, .top 74, .top 75, .top 76, .top 77, .top 78, .top 79, .top 80, .top 81, .top 82, .top 83, .top 84, .top 85, .top 86, .top 87, .top 88, .top 89, .top 90, .top 91, .top 92, .top 93, .top 94, .top 95, .top 36, .top 37]), (15, [.tmpI 14 .i64, .tmpI 12 .i64, .top 41, .top 42, .top 43, .top 44, .top 47, .top 48, .top 49, .top 50, .top 51, .top 52, .top 53, .top 54, .top 55, .top 45, .top 46])] [] 200 Try.f20 [.agg kProg] [.one (.sl [some .i64] 3), .one (.sl [some .i64] 3), .one (.int .i64)] true [.int .i64, .list [some .i8, some .i8, some .i8, some .i8, none, some .i8, some .i8, some .i64, some .i64]] sT_jrun := ⟨by kernel_rfl, by kernel_rfl, by kernel_rfl⟩
def sQ_jrun : List Dt → Prop
  | [.z x0, .l x1] => let f (pr : Prog) : Prop := pr.l.length ≤ maxLen; f ⟨x0, x1⟩
  | _ => False
set_option maxRecDepth 100000 in
set_option maxHeartbeats 8000000 in
theorem sX_jrun (pr : Prog) (hpr : Prog.ok pr) (hp : sQ_jrun [.z pr.ctx, .l pr.l]) (ρ : Env) (g : varsD ρ 0 [.int .i64, .list [some .i8, some .i8, some .i8, some .i8, none, some .i8, some .i8, some .i64, some .i64]] = [.z pr.ctx, .l pr.l]) : sT_jrun.asks sP_jrun (fun ρ e => e.D ρ = sF_jrun [.z pr.ctx, .l pr.l]) ρ fun _ _ => False := by
  simp only [sQ_jrun, b2i_one, Ins.eta, Prog.eta, insAt_mk] at hp
  have keepg := g
  simp only [varsD, varD, List.cons.injEq, Dt.z.injEq, Dt.l.injEq, b2i_eq_iff, Nat.reduceAdd, and_true] at g
  simp only [sT_jrun, sP_jrun, sF_jcheck, sF_jnx, sF_jrd, sF_jwr, sV_jcheck, sV_jnx, sV_jrd, sV_jwr, sF_jrun, sV_jrun, sQ_jcheck, sQ_jnx, Tr.asks, upd_same, okDs, okD, eqs, E.I, E.B, E.L, E.R, E.D, E.vs, dI, dB, dL, varD, varsD, List.getElem?_cons_zero, List.getElem?_cons_succ, List.cons_append, List.nil_append, Nat.zero_add, Nat.add_zero, Nat.reduceAdd, and_true, true_and, b2i_one, -eq_self, Ins.eta, Prog.eta, insAt_mk, g]
  obtain ⟨k0_i0, k0_l1⟩ := g
  refine ⟨?_, ?_⟩
  · exact hp
  intro e; (try simp only [e, Ins.eta, Prog.eta, insAt_mk, -eq_self]); clear e
  refine ⟨fun c0 => ?_, fun c0 => ?_⟩
  refine ⟨fun c1 => ?_, fun c1 => ?_⟩
  have hok := eqI c0
  obtain ⟨⟨hla, n1, n64⟩, _, _⟩ := icheck_ok hp hok
  have hx : ∀ i, i < pr.l.length → ∀ m, m ∈ nx pr i → m < pr.l.length := fun i hi => (lnext_ok hp hok hi).2.2
  refine ⟨fun ds => ∃ (b : Bool) (I O : List BV), ds = [.z (b2i b), .l (rowsB I), .l (rowsB O)] ∧ Dh pr b I O, fun ds => muD (dB ds 0) (dL ds 1) (dL ds 2), ⟨true, List.replicate pr.l.length 0, List.replicate pr.l.length 0, by rw [← rows_rep]; rfl, .init pr⟩, ?_⟩
  intro ρ1 ha1 _ hi1
  obtain ⟨b, I, O, hds, hH⟩ := hi1
  simp only [List.cons.injEq, Dt.z.injEq, Dt.l.injEq, b2i_eq_iff, and_true] at hds
  obtain ⟨k1_b4, k1_l5, k1_l6⟩ := hds
  have k1_i0 : ρ1.i 0 = _ := (ha1 0 (by decide)).1.symm.trans k0_i0
  have k1_l1 : ρ1.l 1 = _ := (ha1 1 (by decide)).2.2.symm.trans k0_l1
  simp only [k1_i0, k1_l1, k1_b4, k1_l5, k1_l6, insAt_mk, -eq_self]
  refine ⟨fun c2 => ?_, fun c2 => ?_⟩
  refine ⟨fun ds => ∃ (m : Nat) (b : Bool) (I' O' : List BV) (z : Int), ds = [.z z, .z (b2i b), .l (rowsB I'), .l (rowsB O')] ∧ z = (m : Int) - 1 ∧ m ≤ pr.l.length ∧ Dn pr I O m b I' O', fun ds => (dI ds 0 + 1).toNat, ⟨pr.l.length, false, I, O, _, rfl, hla, Nat.le_refl _, .init hH.inv⟩, ?_⟩
  intro ρ2 ha2 _ hi2
  obtain ⟨m, b2, I2, O2, z, hds, hz, hm, hD⟩ := hi2
  simp only [List.cons.injEq, Dt.z.injEq, Dt.l.injEq, b2i_eq_iff, and_true] at hds
  obtain ⟨k2_i7, k2_b8, k2_l9, k2_l10⟩ := hds
  have k2_i0 : ρ2.i 0 = _ := (ha2 0 (by decide)).1.symm.trans k1_i0
  have k2_l1 : ρ2.l 1 = _ := (ha2 1 (by decide)).2.2.symm.trans k1_l1
  have k2_b4 : ρ2.b 4 = _ := (ha2 4 (by decide)).2.1.symm.trans k1_b4
  have k2_l5 : ρ2.l 5 = _ := (ha2 5 (by decide)).2.2.symm.trans k1_l5
  have k2_l6 : ρ2.l 6 = _ := (ha2 6 (by decide)).2.2.symm.trans k1_l6
  simp only [k2_i0, k2_l1, k2_i7, k2_b8, k2_l9, k2_l10, insAt_mk, -eq_self]
  refine ⟨fun c3 => ?_, fun c3 => ?_⟩
  · obtain rfl : m = 0 := by have := of_decide_eq_true c3; omega
    have c2 : b = true := c2
    subst c2
    exact ⟨⟨b2, I2, O2, rfl, hD.head n64⟩, by have q := hD.less; cases b2 <;> exact q⟩
  refine ⟨?_, ?_⟩
  · exact hp
  intro e; have k2_l11 : ρ2.l 11 = lnx pr z := e; (try simp only [e, Ins.eta, Prog.eta, insAt_mk, -eq_self]); clear e
  have hz0 := of_decide_eq_false c3
  obtain ⟨k, rfl⟩ : ∃ k : Nat, z = (k : Int) := ⟨z.toNat, by omega⟩
  obtain rfl : m = k + 1 := by omega
  have hk : k < pr.l.length := hm
  rw [lnx_y hok (Int.natCast_nonneg k) (Int.ofNat_lt.2 hk)] at k2_l11
  have hn3 : (lnext pr (k : Int)).length = (nx pr k).length := by unfold nx; simp
  have hn2 : (lnext pr (k : Int)).length ≤ 2 := hn3 ▸ (lnext_ok hp hok hk).2.1
  refine ⟨fun ds => ∃ (j : Nat), ds = [.z (j : Int), .z (orB I2 ((nx pr k).take j) 0).toInt] ∧ j ≤ (lnext pr (k : Int)).length, fun ds => (lnext pr (k : Int)).length - (dI ds 0).toNat, ⟨0, rfl, Nat.zero_le _⟩, ?_⟩
  intro ρ3 ha3 _ hi3
  obtain ⟨j, hds, hj⟩ := hi3
  simp only [List.cons.injEq, Dt.z.injEq, Dt.l.injEq, b2i_eq_iff, and_true] at hds
  obtain ⟨k3_i12, k3_i13⟩ := hds
  have k3_i0 : ρ3.i 0 = _ := (ha3 0 (by decide)).1.symm.trans k2_i0
  have k3_l1 : ρ3.l 1 = _ := (ha3 1 (by decide)).2.2.symm.trans k2_l1
  have k3_i7 : ρ3.i 7 = _ := (ha3 7 (by decide)).1.symm.trans k2_i7
  have k3_b8 : ρ3.b 8 = _ := (ha3 8 (by decide)).2.1.symm.trans k2_b8
  have k3_l9 : ρ3.l 9 = _ := (ha3 9 (by decide)).2.2.symm.trans k2_l9
  have k3_l10 : ρ3.l 10 = _ := (ha3 10 (by decide)).2.2.symm.trans k2_l10
  have k3_l11 : ρ3.l 11 = _ := (ha3 11 (by decide)).2.2.symm.trans k2_l11
  simp only [k3_i0, k3_l1, k3_i7, k3_b8, k3_l9, k3_l10, k3_l11, k3_i12, k3_i13, insAt_mk, -eq_self]
  refine ⟨fun c4 => ?_, fun c4 => ?_⟩
  refine ⟨fun c5 => ?_, fun c5 => ?_⟩
  · exact absurd (of_decide_eq_true c5) (by omega)
  refine ⟨fun c6 => ?_, fun c6 => ?_⟩
  · have hj2 := Int.ofNat_lt.1 (of_decide_eq_true c4)
    obtain ⟨x, y1, y2, y3⟩ := lnext_at hp hok hk hj2
    rw [y2] at c6
    exact absurd (of_decide_eq_true c6) (by omega)
  refine ⟨fun c7 => ?_, fun c7 => ?_⟩
  · have hj2 := Int.ofNat_lt.1 (of_decide_eq_true c4)
    obtain ⟨x, y1, y2, y3⟩ := lnext_at hp hok hk hj2
    rw [y2, behind y1 (hD.inv.li ▸ y3)]
    exact ⟨⟨j + 1, (by rw [addN hj2 (Nat.le_trans hn2 (by decide))]; try rfl), hj2⟩, by rw [addN hj2 (Nat.le_trans hn2 (by decide))]; show (lnext pr (k : Int)).length - (((j + 1 : Nat) : Int)).toNat < (lnext pr (k : Int)).length - ((j : Int)).toNat; omega⟩
  · have hj2 := Int.ofNat_lt.1 (of_decide_eq_true c4)
    obtain ⟨x, y1, y2, y3⟩ := lnext_at hp hok hk hj2
    rw [y2, rows_len, hD.inv.li] at c7
    exact absurd (of_decide_eq_false c7) (by omega)
  refine ⟨fun c8 => ?_, fun c8 => ?_⟩
  intro e; (try simp only [e, Ins.eta, Prog.eta, insAt_mk, -eq_self]); clear e
  intro e; (try simp only [e, Ins.eta, Prog.eta, insAt_mk, -eq_self]); clear e
  refine ⟨fun c9 => ?_, fun c9 => ?_⟩
  refine ⟨fun c10 => ?_, fun c10 => ?_⟩
  refine ⟨fun c11 => ?_, fun c11 => ?_⟩
  · have hjl : j = (nx pr k).length := by have := of_decide_eq_false c4; omega
    have ho : orB I2 ((nx pr k).take j) 0 = oN pr I2 k := by rw [hjl, List.take_length]; rfl
    rw [ho, aN_op, st_rowsB (hD.inv.li.symm ▸ hk), st_rowsB (hD.inv.lo.symm ▸ hk), subN hk hp]
    exact ⟨⟨k, _, _, _, _, rfl, rfl, Nat.le_of_lt hk, hD.step_b hx hk c9⟩, sub_meas k⟩
  · rw [rows_len, hD.inv.lo] at c11
    exact absurd (of_decide_eq_false c11) (by omega)
  · rw [rows_len, hD.inv.li] at c10
    exact absurd (of_decide_eq_false c10) (by omega)
  refine ⟨fun c12 => ?_, fun c12 => ?_⟩
  refine ⟨fun c13 => ?_, fun c13 => ?_⟩
  refine ⟨fun c14 => ?_, fun c14 => ?_⟩
  · have hjl : j = (nx pr k).length := by have := of_decide_eq_false c4; omega
    have ho : orB I2 ((nx pr k).take j) 0 = oN pr I2 k := by rw [hjl, List.take_length]; rfl
    rw [ho, aN_op] at c13
    rw [ho, aN_op, st_rowsB (hD.inv.li.symm ▸ hk), st_rowsB (hD.inv.lo.symm ▸ hk), subN hk hp]
    exact ⟨⟨k, _, _, _, _, rfl, rfl, Nat.le_of_lt hk, hD.step_o hx hk c9 c13⟩, sub_meas k⟩
  · rw [rows_len, hD.inv.lo] at c14
    exact absurd (of_decide_eq_false c14) (by omega)
  refine ⟨fun c15 => ?_, fun c15 => ?_⟩
  · have hjl : j = (nx pr k).length := by have := of_decide_eq_false c4; omega
    have ho : orB I2 ((nx pr k).take j) 0 = oN pr I2 k := by rw [hjl, List.take_length]; rfl
    rw [ho, aN_op] at c13
    rw [ho, aN_op, st_rowsB (hD.inv.li.symm ▸ hk), st_rowsB (hD.inv.lo.symm ▸ hk), subN hk hp]
    exact ⟨⟨k, _, _, _, _, rfl, rfl, Nat.le_of_lt hk, hD.step_a hx hk c13⟩, sub_meas k⟩
  · rw [rows_len, hD.inv.lo] at c15
    exact absurd (of_decide_eq_false c15) (by omega)
  · rw [rows_len, hD.inv.li] at c12
    exact absurd (of_decide_eq_false c12) (by omega)
  · exact absurd (of_decide_eq_false c8) (by omega)
  · obtain rfl : b = false := c2
    obtain ⟨e1, e2⟩ := hH.is n64 hx
    unfold lrun; rw [if_pos hok, e1, e2]; try rfl
  · have q := of_decide_eq_false c1
    have := (icheck_ok hp (eqI c0)).1.2.2
    omega
  · unfold lrun; rw [if_neg (neI c0)]; try rfl
theorem sK_jrun {sp : Spec} {key : Nat} (hF : sp.F key = sF_jrun) (hP : sp.pre key = sQ_jrun) : SmOk Try.prog sp (sM_jrun key) :=
  fun_ok (s := sM_jrun key) hF hP (by kernel_rfl) tysok_LiR (smc (sK_jcheck rfl rfl) (smc (sK_jnx rfl rfl) (smc (sK_jrd rfl) (smc (sK_jwr rfl) sm0)))) Try.func20 fn0 sR_jrun (.inr (fun xs h L hL => by unfold sQ_jrun at h; split at h <;> first | exact h.elim | (simp at hL; subst hL; exact h))) (fun x0 gx0 x1 gx1 hp ρ g => sX_jrun ⟨x0, x1⟩ ⟨gx0, gx1⟩ hp ρ g)
end Go.Proofs.Ytmkaphfdgdkaoaa
