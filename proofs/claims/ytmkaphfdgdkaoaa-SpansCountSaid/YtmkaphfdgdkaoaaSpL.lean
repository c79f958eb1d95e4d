/- The law SpansCount. -/
import Derived.Test.YtmkaphfdgdkaoaaSpI
import Derived.Test.YtmkaphfdgdkaoaaLiQ
import Derived.Test.YtmkaphfdgdkaoaaProg
import Derived.Laws.Externs
set_option linter.unusedVariables false
set_option linter.unusedSimpArgs false
namespace Go.Proofs.Ytmkaphfdgdkaoaa
open Go.RowKit Go.ChangeShapes Go.WideShapes

theorem rwSpan : Rw Try.prog 47 [some .i64, some .i64, some .i64, none] := Rw.struct (ks := [some .i64, some .i64, some .i64, none]) (RwSeq.cons (ks := [some .i64]) rwI64 (by rfl) (RwSeq.cons (ks := [some .i64]) rwI64 (by rfl) (RwSeq.cons (ks := [some .i64]) rwI64 (by rfl) (RwSeq.cons (ks := [none]) rwBo (by rfl) (RwSeq.nil _ _))))) Try.underlying47 (by kernel_rfl)
def tys_SpL : List (Nat × TI) := [(3, ⟨false, 1, [.int .i64 (.lit 0)], [], none, some .i64, false, false, none, 8, false, none, false⟩),
 (4, ⟨false, 1, [.bool (.tt false)], [], none, none, false, true, none, 1, false, none, false⟩),
 (27, ⟨false, 1, [.nsl], [], none, none, false, false, some 3, 24, false, none, false⟩),
 (42, ⟨false, 1, [.nsl], [], none, none, false, false, some 47, 24, false, none, false⟩),
 (47, ⟨true, 4, [.int .i64 (.lit 0), .int .i64 (.lit 0), .int .i64 (.lit 0), .bool (.tt false)], [(0, 3), (1, 3), (2, 3), (3, 4)], none, none, true, false, none, 32, false, none, false⟩)]
set_option maxRecDepth 100000 in
theorem tysck_SpL : (tys_SpL.all fun p => ckTI Try.prog p.1 p.2) = true := by kernel_rfl
theorem tyseq_SpL : (tys_SpL.all fun p => !p.2.eqok || ((Nat.beq p.1 47 && kindsC p.2.zero z_Span))) = true := by kernel_rfl
theorem tyskn_SpL : (tys_SpL.all fun p => !p.2.keyok) = true := by kernel_rfl
theorem tysok_SpL : ∀ t i, (t, i) ∈ tys_SpL → TIok Try.prog t i := by
  intro t i h
  refine TIok_of (all_at (f := ckTI Try.prog) tysck_SpL h) (fun he => ?_) (fun he => ?_) (fun he => ?_)
  · have h1 := List.all_eq_true.1 tyseq_SpL (t, i) h
    simp only [he, Bool.not_true, Bool.false_or, Bool.or_eq_true, Bool.and_eq_true] at h1
    have hs := h1.2
    obtain rfl := Nat.eq_of_beq_eq_true h1.1
    exact fun vs us hv hu => eq_Span vs us (kindsV_of hs hv) (kindsV_of hs hu)
  · have h1 := List.all_eq_true.1 tyseq_SpL (t, i) h
    simp only [he, Bool.not_true, Bool.false_or, Bool.or_eq_true, Bool.and_eq_true] at h1
    have hs := h1.2
    obtain rfl := Nat.eq_of_beq_eq_true h1.1
    exact grd_Span
  · have h1 := List.all_eq_true.1 tyskn_SpL (t, i) h
    simp [he] at h1
def sM_scount (key : Nat) : Sm := ⟨11, key, [.one (.sl [some .i64, some .i64, some .i64, none] 47), .one (.int .i64)], [.one .bool], false⟩
def sV_scount (l : List (List Int)) (i : Int) : List Dt := [.z (b2i true)]
def sF_scount : List Dt → List Dt
  | [.l x0, .z x1] => sV_scount x0 x1
  | _ => []
set_option maxRecDepth 100000 in
def sT_scount : Tr :=
(.br (.lt (.lit 100) (.len (.lvar 0)))
(.call 3 ([.bool]) .nil 2
(.leaf (.consb (.bvar 2) .nil)))
(.call 0 ([.sl [some .i64] 3]) (.consl (.lvar 0) (.cons (.var 1) .nil)) 2
(.loop 0 3 [.int .i64] (.cons (.lit 1) .nil)
(.br (.lt (.var 3) (.len (.lvar 2)))
(.br (.lt (.var 3) (.lit 0))
.panic
(.br (.lt (.bin .sub .i64 (.var 3) (.lit 1)) (.lit 0))
.panic
(.br (.lt (.bin .sub .i64 (.var 3) (.lit 1)) (.len (.lvar 2)))
(.br (.lt (.get (.lvar 2) (.bin .sub .i64 (.var 3) (.lit 1)) 0) (.get (.lvar 2) (.var 3) 0))
(.next 0 (.cons (.bin .add .i64 (.var 3) (.lit 1)) .nil))
(.leaf (.consb (.tt false) .nil)))
.panic)))
(.loop 1 4 [.int .i64] (.cons (.lit 0) .nil)
(.br (.lt (.var 4) (.len (.lvar 0)))
(.loop 2 5 [.int .i64, .bool] (.cons (.lit 0) (.consb (.tt false) .nil))
(.br (.lt (.var 5) (.len (.lvar 2)))
(.br (.bvar 6)
(.next 2 (.cons (.bin .add .i64 (.var 5) (.lit 1)) (.consb (.tt true) .nil)))
(.br (.lt (.var 5) (.lit 0))
.panic
(.br (.lt (.var 4) (.lit 0))
.panic
(.next 2 (.cons (.bin .add .i64 (.var 5) (.lit 1)) (.consb (.eq (.get (.lvar 2) (.var 5) 0) (.get (.lvar 0) (.var 4) 0)) .nil))))))
(.br (.lt (.var 4) (.lit 0))
.panic
(.br (.lt (.var 1) (.get (.lvar 0) (.var 4) 1))
(.br (.lt (.lit 0) (.len (.lvar 0)))
(.call 1 ([.bool]) (.cons (.get (.lvar 0) (.var 4) 0) (.cons (.get (.lvar 0) (.var 4) 1) (.cons (.get (.lvar 0) (.var 4) 2) (.consb (.getb (.lvar 0) (.var 4) 3) (.cons (.get (.lvar 0) (.lit 0) 0) (.cons (.get (.lvar 0) (.lit 0) 1) (.cons (.get (.lvar 0) (.lit 0) 2) (.consb (.getb (.lvar 0) (.lit 0) 3) .nil)))))))) 7
(.call 1 ([.bool]) (.cons (.get (.lvar 0) (.lit 0) 0) (.cons (.get (.lvar 0) (.lit 0) 1) (.cons (.get (.lvar 0) (.lit 0) 2) (.consb (.getb (.lvar 0) (.lit 0) 3) (.cons (.get (.lvar 0) (.var 4) 0) (.cons (.get (.lvar 0) (.var 4) 1) (.cons (.get (.lvar 0) (.var 4) 2) (.consb (.getb (.lvar 0) (.var 4) 3) .nil)))))))) 8
(.br (.beq (.bvar 7) (.bvar 8))
(.next 1 (.cons (.bin .add .i64 (.var 4) (.lit 1)) .nil))
(.leaf (.consb (.tt false) .nil)))))
.panic)
(.br (.lt (.get (.lvar 0) (.var 4) 2) (.var 1))
(.br (.lt (.lit 0) (.len (.lvar 0)))
(.call 1 ([.bool]) (.cons (.get (.lvar 0) (.var 4) 0) (.cons (.get (.lvar 0) (.var 4) 1) (.cons (.get (.lvar 0) (.var 4) 2) (.consb (.getb (.lvar 0) (.var 4) 3) (.cons (.get (.lvar 0) (.lit 0) 0) (.cons (.get (.lvar 0) (.lit 0) 1) (.cons (.get (.lvar 0) (.lit 0) 2) (.consb (.getb (.lvar 0) (.lit 0) 3) .nil)))))))) 7
(.call 1 ([.bool]) (.cons (.get (.lvar 0) (.lit 0) 0) (.cons (.get (.lvar 0) (.lit 0) 1) (.cons (.get (.lvar 0) (.lit 0) 2) (.consb (.getb (.lvar 0) (.lit 0) 3) (.cons (.get (.lvar 0) (.var 4) 0) (.cons (.get (.lvar 0) (.var 4) 1) (.cons (.get (.lvar 0) (.var 4) 2) (.consb (.getb (.lvar 0) (.var 4) 3) .nil)))))))) 8
(.br (.beq (.bvar 7) (.bvar 8))
(.next 1 (.cons (.bin .add .i64 (.var 4) (.lit 1)) .nil))
(.leaf (.consb (.tt false) .nil)))))
.panic)
(.br (.bvar 6)
(.br (.lt (.lit 0) (.len (.lvar 0)))
(.call 1 ([.bool]) (.cons (.get (.lvar 0) (.var 4) 0) (.cons (.get (.lvar 0) (.var 4) 1) (.cons (.get (.lvar 0) (.var 4) 2) (.consb (.getb (.lvar 0) (.var 4) 3) (.cons (.get (.lvar 0) (.lit 0) 0) (.cons (.get (.lvar 0) (.lit 0) 1) (.cons (.get (.lvar 0) (.lit 0) 2) (.consb (.getb (.lvar 0) (.lit 0) 3) .nil)))))))) 7
(.call 1 ([.bool]) (.cons (.get (.lvar 0) (.lit 0) 0) (.cons (.get (.lvar 0) (.lit 0) 1) (.cons (.get (.lvar 0) (.lit 0) 2) (.consb (.getb (.lvar 0) (.lit 0) 3) (.cons (.get (.lvar 0) (.var 4) 0) (.cons (.get (.lvar 0) (.var 4) 1) (.cons (.get (.lvar 0) (.var 4) 2) (.consb (.getb (.lvar 0) (.var 4) 3) .nil)))))))) 8
(.br (.beq (.bvar 7) (.bvar 8))
(.next 1 (.cons (.bin .add .i64 (.var 4) (.lit 1)) .nil))
(.leaf (.consb (.tt false) .nil)))))
.panic)
(.leaf (.consb (.tt false) .nil))))))))
(.loop 2 5 [.int .i64] (.cons (.lit 0) .nil)
(.br (.lt (.var 5) (.len (.lvar 2)))
(.loop 3 6 [.int .i64, .bool] (.cons (.lit 0) (.consb (.tt false) .nil))
(.br (.lt (.var 6) (.len (.lvar 0)))
(.br (.bvar 7)
(.next 3 (.cons (.bin .add .i64 (.var 6) (.lit 1)) (.consb (.tt true) .nil)))
(.br (.lt (.var 6) (.lit 0))
.panic
(.br (.lt (.var 5) (.lit 0))
.panic
(.br (.eq (.get (.lvar 0) (.var 6) 0) (.get (.lvar 2) (.var 5) 0))
(.br (.lt (.var 1) (.get (.lvar 0) (.var 6) 1))
(.next 3 (.cons (.bin .add .i64 (.var 6) (.lit 1)) (.consb (.tt false) .nil)))
(.next 3 (.cons (.bin .add .i64 (.var 6) (.lit 1)) (.consb (.not (.lt (.get (.lvar 0) (.var 6) 2) (.var 1))) .nil))))
(.next 3 (.cons (.bin .add .i64 (.var 6) (.lit 1)) (.consb (.tt false) .nil)))))))
(.br (.bvar 7)
(.next 2 (.cons (.bin .add .i64 (.var 5) (.lit 1)) .nil))
(.leaf (.consb (.tt false) .nil)))))
(.loop 3 6 [.int .i64, .int .i64] (.cons (.lit 0) (.cons (.lit 0) .nil))
(.br (.lt (.var 6) (.lit 64))
(.call 0 ([.sl [some .i64] 3]) (.consl (.lvar 0) (.cons (.var 6) .nil)) 8
(.next 3 (.cons (.bin .add .i64 (.var 6) (.lit 1)) (.cons (.mx (.var 7) (.len (.lvar 8))) .nil))))
(.call 2 ([.int .i64]) (.consl (.lvar 0) .nil) 8
(.br (.eq (.var 8) (.var 7))
(.call 3 ([.bool]) .nil 9
(.leaf (.consb (.bvar 9) .nil)))
(.leaf (.consb (.tt false) .nil))))))))))))))
def sP_scount : Spec := ⟨fun k => match k with | 0 => sF_sat | 1 => sF_smeet | 2 => sF_smost | 3 => sF_swakes | _ => fun _ => [], fun k => match k with | 0 => sQ_sat | 2 => sQ_smost | _ => fun _ => True⟩
set_option maxRecDepth 100000 in
theorem sR_scount : treeIs tys_SpL [sM_sat 0, sM_smeet 1, sM_smost 2, sM_swakes 3] [] [(5, [.tmpI 6 .i64, .top 22, .top 23, .top 24, .top 25, .top 28, .top 29, .top 30, .top 31, .top 32, .top 33, .top 34, .top 35, .top 36, .top 37, .top 4, .top 26, .top 27]), (10, [.tmpI 7 .i64, .top 38, .top 39, .top 40, .top 41, .top 8, .top 9, .top 44, .top 45, .top 46, .top 47, .top 50, .top 51, .top 52, .top 53, .top 54, .top 55, .top 56, .top 57, .top 58, .top 59, .top 60, .top 61, .top 62, .top 48, .top 49, .top 63, .top 64, .top 65, .top 66, .top 67, .top 68, .top 69, .top 70, .top 71, .top 72, .top 73, .top 74, .top 75, .top 76, .top 77, .top 78, .top 79, .top 80, .top 81, .top 82, .top 83, .top 84, .top 85, .top 86, .top 87, .top 88, .top 89, .top 90, .top 91, .top 92, .top 93, .top 94, .top 95, .top 96, .top 97, .top 98, .top 99, .top 100, .top 101, .top 4, .top 42, .top 43]), (14, [.tmpI 9 .i64, .tmpB 8, .top 44, .top 45, .top 46, .top 47, .top 50, .top 51, .top 52, .top 53, .top 54, .top 55, .top 56, .top 57, .top 58, .top 59, .top 60, .top 61, .top 62, .top 48, .top 49]), (20, [.tmpI 10 .i64, .top 102, .top 103, .top 104, .top 105, .top 11, .top 12, .top 108, .top 109, .top 110, .top 111, .top 114, .top 115, .top 116, .top 117, .top 118, .top 119, .top 120, .top 121, .top 122, .top 123, .top 124, .top 125, .top 126, .top 127, .top 128, .top 129, .top 130, .top 131, .top 132, .top 133, .top 134, .top 135, .top 136, .top 137, .top 138, .top 139, .top 140, .top 141, .top 142, .top 143, .top 144, .top 112, .top 113, .top 145, .top 146, .top 4, .top 106, .top 107]), (24, [.tmpI 12 .i64, .tmpB 11, .top 108, .top 109, .top 110, .top 111, .top 114, .top 115, .top 116, .top 117, .top 118, .top 119, .top 120, .top 121, .top 122, .top 123, .top 124, .top 125, .top 126, .top 127, .top 128, .top 129, .top 130, .top 131, .top 132, .top 133, .top 134, .top 135, .top 136, .top 137, .top 138, .top 139, .top 140, .top 141, .top 142, .top 143, .top 144, .top 112, .top 113]), (31, [.tmpI 14 .i64, .tmpI 13 .i64, .top 147, .top 148, .top 151, .top 152, .top 153, .top 154, .top 155, .top 156, .top 149, .top 150])] [] 200 Try.f11 [.one (.sl [some .i64, some .i64, some .i64, none] 47), .one (.int .i64)] [.one .bool] false [.list [some .i64, some .i64, some .i64, none], .int .i64] sT_scount := ⟨by kernel_rfl, by kernel_rfl, by kernel_rfl⟩
set_option maxRecDepth 100000 in
set_option maxHeartbeats 8000000 in
theorem sX_scount (l : List (List Int)) (hl : RowsIn [some .i64, some .i64, some .i64, none] l) (i : Int) (hi : inK .i64 i = true) (ρ : Env) (g : varsD ρ 0 [.list [some .i64, some .i64, some .i64, none], .int .i64] = [.l l, .z i]) : sT_scount.asks sP_scount (fun ρ e => e.D ρ = sF_scount [.l l, .z i]) ρ fun _ _ => False := by
  have keepg := g
  simp only [varsD, varD, List.cons.injEq, Dt.z.injEq, Dt.l.injEq, b2i_eq_iff, Nat.reduceAdd, and_true] at g
  simp only [sT_scount, sP_scount, sF_sat, sF_smeet, sF_smost, sF_swakes, sV_sat, sV_smeet, sV_smost, sF_scount, sV_scount, sQ_sat, sQ_smost, Tr.asks, upd_same, okDs, okD, eqs, E.I, E.B, E.L, E.R, E.D, E.vs, dI, dB, dL, varD, varsD, List.getElem?_cons_zero, List.getElem?_cons_succ, List.cons_append, List.nil_append, Nat.zero_add, Nat.add_zero, Nat.reduceAdd, and_true, true_and, b2i_one, -eq_self, Ins.eta, Prog.eta, insAt_mk, Span.eta, spanAt_mk, g]
  obtain ⟨k0_l0, k0_i1⟩ := g
  refine ⟨fun c0 => ?_, fun c0 => ?_⟩
  intro e; (try simp only [e, Ins.eta, Prog.eta, insAt_mk, Span.eta, spanAt_mk, -eq_self]); clear e
  · rfl
  refine ⟨?_, ?_⟩
  · exact (Nat.not_lt.1 fun h => of_decide_eq_false c0 (by omega))
  intro e; have k0_l2 : ρ.l 2 = rowsI (oAt l i) := e; (try simp only [e, Ins.eta, Prog.eta, insAt_mk, Span.eta, spanAt_mk, -eq_self]); clear e
  have h100 : l.length ≤ 100 := (Nat.not_lt.1 fun h => of_decide_eq_false c0 (by omega))
  have hm : l.length ≤ maxLen := Nat.le_trans h100 (by decide)
  have hol := oAt_len l i
  refine ⟨fun ds => ∃ k : Nat, ds = [.z (k : Int)] ∧ 1 ≤ k, fun ds => (oAt l i).length - (dI ds 0).toNat, ⟨1, rfl, Nat.le_refl _⟩, ?_⟩
  intro ρ1 ha1 _ hi1
  obtain ⟨k, k1_i3, hk⟩ := hi1
  simp only [List.cons.injEq, Dt.z.injEq, and_true] at k1_i3
  have k1_l0 : ρ1.l 0 = _ := (ha1 0 (by decide)).2.2.symm.trans k0_l0
  have k1_i1 : ρ1.i 1 = _ := (ha1 1 (by decide)).1.symm.trans k0_i1
  have k1_l2 : ρ1.l 2 = _ := (ha1 2 (by decide)).2.2.symm.trans k0_l2
  simp only [k1_l0, k1_i1, k1_l2, k1_i3, insAt_mk, gt_rowsD, rowsI_len, -eq_self]
  refine ⟨fun c1 => ?_, fun c1 => ?_⟩
  refine ⟨fun c2 => ?_, fun c2 => ?_⟩
  · exact absurd (of_decide_eq_true c2) (by omega)
  refine ⟨fun c3 => ?_, fun c3 => ?_⟩
  · have hk2 : k < (oAt l i).length := Int.ofNat_lt.1 (of_decide_eq_true c1)
    rw [subNN hk (by omega)] at c3
    exact absurd (of_decide_eq_true c3) (by omega)
  refine ⟨fun c4 => ?_, fun c4 => ?_⟩
  refine ⟨fun c5 => ?_, fun c5 => ?_⟩
  · have hk2 : k < (oAt l i).length := Int.ofNat_lt.1 (of_decide_eq_true c1)
    rw [addN hk2 (by omega)]
    exact ⟨⟨k + 1, rfl, by omega⟩, by show (oAt l i).length - (((k + 1 : Nat) : Int)).toNat < (oAt l i).length - ((k : Int)).toNat; omega⟩
  · have hk2 : k < (oAt l i).length := Int.ofNat_lt.1 (of_decide_eq_true c1)
    rw [subNN hk (by omega), gt_rowsD] at c5
    exact absurd (of_decide_eq_false c5) (by have := oAt_up l i (j := k - 1) (by omega) hk2; omega)
  · have hk2 : k < (oAt l i).length := Int.ofNat_lt.1 (of_decide_eq_true c1)
    rw [subNN hk (by omega)] at c4
    exact absurd (of_decide_eq_false c4) (by omega)
  refine ⟨fun ds => ∃ m : Nat, ds = [.z (m : Int)], fun ds => l.length - (dI ds 0).toNat, ⟨0, rfl⟩, ?_⟩
  intro ρ2 ha2 _ hi2
  obtain ⟨m, k2_i4⟩ := hi2
  simp only [List.cons.injEq, Dt.z.injEq, and_true] at k2_i4
  have k2_l0 : ρ2.l 0 = _ := (ha2 0 (by decide)).2.2.symm.trans k1_l0
  have k2_i1 : ρ2.i 1 = _ := (ha2 1 (by decide)).1.symm.trans k1_i1
  have k2_l2 : ρ2.l 2 = _ := (ha2 2 (by decide)).2.2.symm.trans k1_l2
  simp only [k2_l0, k2_i1, k2_l2, k2_i4, insAt_mk, gt_rowsD, rowsI_len, -eq_self]
  refine ⟨fun c6 => ?_, fun c6 => ?_⟩
  have hm2 : m < l.length := Int.ofNat_lt.1 (of_decide_eq_true c6)
  refine ⟨fun ds => ∃ j : Nat, ds = [.z (j : Int), .z (b2i (decide (gt l (m : Int) 0 ∈ (oAt l i).take j)))] ∧ j ≤ (oAt l i).length, fun ds => (oAt l i).length - (dI ds 0).toNat, ⟨0, by (try simp) <;> (try rfl), Nat.zero_le _⟩, ?_⟩
  intro ρ3 ha3 _ hi3
  obtain ⟨j, hds, hj⟩ := hi3
  simp only [List.cons.injEq, Dt.z.injEq, Dt.l.injEq, b2i_eq_iff, and_true] at hds
  obtain ⟨k3_i5, k3_b6⟩ := hds
  have k3_l0 : ρ3.l 0 = _ := (ha3 0 (by decide)).2.2.symm.trans k2_l0
  have k3_i1 : ρ3.i 1 = _ := (ha3 1 (by decide)).1.symm.trans k2_i1
  have k3_l2 : ρ3.l 2 = _ := (ha3 2 (by decide)).2.2.symm.trans k2_l2
  have k3_i4 : ρ3.i 4 = _ := (ha3 4 (by decide)).1.symm.trans k2_i4
  simp only [k3_l0, k3_i1, k3_l2, k3_i4, k3_i5, k3_b6, insAt_mk, gt_rowsD, rowsI_len, spanAt_mk, -eq_self]
  refine ⟨fun c7 => ?_, fun c7 => ?_⟩
  refine ⟨fun c8 => ?_, fun c8 => ?_⟩
  · have hj2 : j < (oAt l i).length := Int.ofNat_lt.1 (of_decide_eq_true c7)
    rw [addN hj2 (by omega)]
    exact ⟨⟨j + 1, (by rw [take_mem_step hj2, c8, Bool.true_or]; try rfl), hj2⟩, by show (oAt l i).length - (((j + 1 : Nat) : Int)).toNat < (oAt l i).length - ((j : Int)).toNat; omega⟩
  refine ⟨fun c9 => ?_, fun c9 => ?_⟩
  · exact absurd (of_decide_eq_true c9) (by omega)
  refine ⟨fun c10 => ?_, fun c10 => ?_⟩
  · exact absurd (of_decide_eq_true c10) (by omega)
  · have hj2 : j < (oAt l i).length := Int.ofNat_lt.1 (of_decide_eq_true c7)
    rw [addN hj2 (by omega)]
    exact ⟨⟨j + 1, (by rw [take_mem_step hj2, c8, Bool.false_or]; try rfl), hj2⟩, by show (oAt l i).length - (((j + 1 : Nat) : Int)).toNat < (oAt l i).length - ((j : Int)).toNat; omega⟩
  refine ⟨fun c11 => ?_, fun c11 => ?_⟩
  · exact absurd (of_decide_eq_true c11) (by omega)
  refine ⟨fun c12 => ?_, fun c12 => ?_⟩
  refine ⟨fun c13 => ?_, fun c13 => ?_⟩
  intro e; (try simp only [e, Ins.eta, Prog.eta, insAt_mk, Span.eta, spanAt_mk, -eq_self]); clear e
  intro e; (try simp only [e, Ins.eta, Prog.eta, insAt_mk, Span.eta, spanAt_mk, -eq_self]); clear e
  refine ⟨fun c14 => ?_, fun c14 => ?_⟩
  · rw [addN hm2 hm]
    exact ⟨⟨m + 1, rfl⟩, by show l.length - (((m + 1 : Nat) : Int)).toNat < l.length - ((m : Int)).toNat; omega⟩
  · rw [sMeet_comm] at c14
    simp at c14
  · exact absurd (of_decide_eq_false c13) (by omega)
  refine ⟨fun c15 => ?_, fun c15 => ?_⟩
  refine ⟨fun c16 => ?_, fun c16 => ?_⟩
  intro e; (try simp only [e, Ins.eta, Prog.eta, insAt_mk, Span.eta, spanAt_mk, -eq_self]); clear e
  intro e; (try simp only [e, Ins.eta, Prog.eta, insAt_mk, Span.eta, spanAt_mk, -eq_self]); clear e
  refine ⟨fun c17 => ?_, fun c17 => ?_⟩
  · rw [addN hm2 hm]
    exact ⟨⟨m + 1, rfl⟩, by show l.length - (((m + 1 : Nat) : Int)).toNat < l.length - ((m : Int)).toNat; omega⟩
  · rw [sMeet_comm] at c17
    simp at c17
  · exact absurd (of_decide_eq_false c16) (by omega)
  refine ⟨fun c18 => ?_, fun c18 => ?_⟩
  refine ⟨fun c19 => ?_, fun c19 => ?_⟩
  intro e; (try simp only [e, Ins.eta, Prog.eta, insAt_mk, Span.eta, spanAt_mk, -eq_self]); clear e
  intro e; (try simp only [e, Ins.eta, Prog.eta, insAt_mk, Span.eta, spanAt_mk, -eq_self]); clear e
  refine ⟨fun c20 => ?_, fun c20 => ?_⟩
  · rw [addN hm2 hm]
    exact ⟨⟨m + 1, rfl⟩, by show l.length - (((m + 1 : Nat) : Int)).toNat < l.length - ((m : Int)).toNat; omega⟩
  · rw [sMeet_comm] at c20
    simp at c20
  · exact absurd (of_decide_eq_false c19) (by omega)
  · have hjl : j = (oAt l i).length := by have := of_decide_eq_false c7; omega
    rw [hjl, List.take_length] at c18
    exact absurd (oAt_mem.2 ((atN_mem l i _ _).2 ⟨m, hm2, onS_yes c12 c15, rfl⟩)) (of_decide_eq_false c18)
  refine ⟨fun ds => ∃ j : Nat, ds = [.z (j : Int)], fun ds => (oAt l i).length - (dI ds 0).toNat, ⟨0, rfl⟩, ?_⟩
  intro ρ3 ha3 _ hi3
  obtain ⟨j, k3_i5⟩ := hi3
  simp only [List.cons.injEq, Dt.z.injEq, and_true] at k3_i5
  have k3_l0 : ρ3.l 0 = _ := (ha3 0 (by decide)).2.2.symm.trans k2_l0
  have k3_i1 : ρ3.i 1 = _ := (ha3 1 (by decide)).1.symm.trans k2_i1
  have k3_l2 : ρ3.l 2 = _ := (ha3 2 (by decide)).2.2.symm.trans k2_l2
  simp only [k3_l0, k3_i1, k3_l2, k3_i5, insAt_mk, gt_rowsD, rowsI_len, -eq_self]
  refine ⟨fun c21 => ?_, fun c21 => ?_⟩
  have hj2 : j < (oAt l i).length := Int.ofNat_lt.1 (of_decide_eq_true c21)
  refine ⟨fun ds => ∃ n : Nat, ds = [.z (n : Int), .z (b2i (decide ((oAt l i).getD j 0 ∈ atN l i n)))] ∧ n ≤ l.length, fun ds => l.length - (dI ds 0).toNat, ⟨0, by (try simp [atN]) <;> (try rfl), Nat.zero_le _⟩, ?_⟩
  intro ρ4 ha4 _ hi4
  obtain ⟨n, hds, hn⟩ := hi4
  simp only [List.cons.injEq, Dt.z.injEq, Dt.l.injEq, b2i_eq_iff, and_true] at hds
  obtain ⟨k4_i6, k4_b7⟩ := hds
  have k4_l0 : ρ4.l 0 = _ := (ha4 0 (by decide)).2.2.symm.trans k3_l0
  have k4_i1 : ρ4.i 1 = _ := (ha4 1 (by decide)).1.symm.trans k3_i1
  have k4_l2 : ρ4.l 2 = _ := (ha4 2 (by decide)).2.2.symm.trans k3_l2
  have k4_i5 : ρ4.i 5 = _ := (ha4 5 (by decide)).1.symm.trans k3_i5
  simp only [k4_l0, k4_i1, k4_l2, k4_i5, k4_i6, k4_b7, insAt_mk, gt_rowsD, rowsI_len, -eq_self]
  refine ⟨fun c22 => ?_, fun c22 => ?_⟩
  refine ⟨fun c23 => ?_, fun c23 => ?_⟩
  · have hn2 : n < l.length := Int.ofNat_lt.1 (of_decide_eq_true c22)
    rw [addN hn2 hm]
    exact ⟨⟨n + 1, (by rw [at_mem_step, c23, Bool.true_or]; try rfl), hn2⟩, by show l.length - (((n + 1 : Nat) : Int)).toNat < l.length - ((n : Int)).toNat; omega⟩
  refine ⟨fun c24 => ?_, fun c24 => ?_⟩
  · exact absurd (of_decide_eq_true c24) (by omega)
  refine ⟨fun c25 => ?_, fun c25 => ?_⟩
  · exact absurd (of_decide_eq_true c25) (by omega)
  refine ⟨fun c26 => ?_, fun c26 => ?_⟩
  refine ⟨fun c27 => ?_, fun c27 => ?_⟩
  · have hn2 : n < l.length := Int.ofNat_lt.1 (of_decide_eq_true c22)
    rw [addN hn2 hm]
    exact ⟨⟨n + 1, (by rw [at_mem_step, c23, Bool.false_or, onS_no1 c27, Bool.false_and]; try rfl), hn2⟩, by show l.length - (((n + 1 : Nat) : Int)).toNat < l.length - ((n : Int)).toNat; omega⟩
  · have hn2 : n < l.length := Int.ofNat_lt.1 (of_decide_eq_true c22)
    rw [addN hn2 hm]
    exact ⟨⟨n + 1, (by rw [at_mem_step, c23, Bool.false_or, c26, Bool.and_true, onS_half c27]; try rfl), hn2⟩, by show l.length - (((n + 1 : Nat) : Int)).toNat < l.length - ((n : Int)).toNat; omega⟩
  · have hn2 : n < l.length := Int.ofNat_lt.1 (of_decide_eq_true c22)
    rw [addN hn2 hm]
    exact ⟨⟨n + 1, (by rw [at_mem_step, c23, Bool.false_or, c26, Bool.and_false]; try rfl), hn2⟩, by show l.length - (((n + 1 : Nat) : Int)).toNat < l.length - ((n : Int)).toNat; omega⟩
  refine ⟨fun c28 => ?_, fun c28 => ?_⟩
  · rw [addN hj2 (by omega)]
    exact ⟨⟨j + 1, rfl⟩, by show (oAt l i).length - (((j + 1 : Nat) : Int)).toNat < (oAt l i).length - ((j : Int)).toNat; omega⟩
  · have hnl : n = l.length := by have := of_decide_eq_false c22; omega
    rw [hnl] at c28
    exact absurd (oAt_mem.1 (getD_in hj2)) (of_decide_eq_false c28)
  refine ⟨fun ds => ∃ n : Nat, ds = [.z (n : Int), .z (sMostN l n)] ∧ n ≤ 64, fun ds => 64 - (dI ds 0).toNat, ⟨0, rfl, Nat.zero_le _⟩, ?_⟩
  intro ρ4 ha4 _ hi4
  obtain ⟨n, hds, hn⟩ := hi4
  simp only [List.cons.injEq, Dt.z.injEq, Dt.l.injEq, b2i_eq_iff, and_true] at hds
  obtain ⟨k4_i6, k4_i7⟩ := hds
  have k4_l0 : ρ4.l 0 = _ := (ha4 0 (by decide)).2.2.symm.trans k3_l0
  have k4_i1 : ρ4.i 1 = _ := (ha4 1 (by decide)).1.symm.trans k3_i1
  simp only [k4_l0, k4_i1, k4_i6, k4_i7, insAt_mk, -eq_self]
  refine ⟨fun c29 => ?_, fun c29 => ?_⟩
  refine ⟨?_, ?_⟩
  · exact (Nat.not_lt.1 fun h => of_decide_eq_false c0 (by omega))
  intro e; (try simp only [e, Ins.eta, Prog.eta, insAt_mk, Span.eta, spanAt_mk, -eq_self]); clear e
  · have hn2 : n < 64 := Int.ofNat_lt.1 (of_decide_eq_true c29)
    rw [addN hn2 (by decide)]
    exact ⟨⟨n + 1, rfl, hn2⟩, by show 64 - (((n + 1 : Nat) : Int)).toNat < 64 - ((n : Int)).toNat; omega⟩
  refine ⟨?_, ?_⟩
  · exact (Nat.not_lt.1 fun h => of_decide_eq_false c0 (by omega))
  intro e; (try simp only [e, Ins.eta, Prog.eta, insAt_mk, Span.eta, spanAt_mk, -eq_self]); clear e
  refine ⟨fun c30 => ?_, fun c30 => ?_⟩
  intro e; (try simp only [e, Ins.eta, Prog.eta, insAt_mk, Span.eta, spanAt_mk, -eq_self]); clear e
  · rfl
  · have hn64 : n = 64 := by have := of_decide_eq_false c29; omega
    rw [hn64] at c30
    exact absurd rfl (neI c30)
theorem sC_scount (xs : List Dt) (vals : List Value) (w : World) (hw : shRel w [.one (.sl [some .i64, some .i64, some .i64, none] 47), .one (.int .i64)] xs vals) : Calls Try.prog 11 vals.toArray w fun e w' => ∃ v, e = .returned v ∧ RetOk [.one .bool] false w w' (sF_scount xs) v :=
  (fun_calls (by kernel_rfl) tysok_SpL (smc (sK_sat rfl rfl) (smc (sK_smeet rfl) (smc (sK_smost rfl rfl) (smc (sK_swakes rfl) sm0)))) Try.func11 fn0 sR_scount (pre := fun _ => True) (fun x0 gx0 x1 gx1 hp ρ g => sX_scount x0 gx0 x1 gx1 ρ g) xs vals w hw trivial).2
set_option maxRecDepth 100000 in
set_option maxHeartbeats 8000000 in
theorem law_SpansCount {H : Type} {enc : TypeId × Value → H} {W : World} {r : Reach} {b0 : Nat} (v0 : Value) (k0 : Value.okWide Try.prog W r b0 42 v0) (d0 : DataW H) (p0 : List MemPlace) (h0 : DataW.Trod enc Try.prog W 0 (fun _ => true) true 42 v0 d0 p0) (_ : ∀ x ∈ p0, x.block < W.heap.size) (a1 : Int) (w1 : (Lit.int .i64 a1).wf = true) :
    Calls Try.prog 11 #[v0, .int .i64 a1] W fun e W' => e = .returned (.bool true) ∧ Below W.heap.size W W' := by
  obtain ⟨q0, s0, rfl, n0, m0, o0, l0⟩ := sl_of_arg rwSpan (by decide) Try.underlying42 k0 h0
  refine (sC_scount (.l q0 :: ( .z a1 :: ([]))) _ W ⟨_, _, _, rfl, ⟨_, _, rfl, rfl, n0, m0, o0, l0⟩, ⟨_, _, _, rfl, ⟨_, rfl, rfl, (inK_of_wf w1)⟩, ⟨rfl, rfl⟩⟩⟩).mono fun e W' ⟨v, he, hr⟩ => ?_
  have hv : v = .bool true := RetOk.says hr
  rw [he, hv]
  exact ⟨rfl, hr.ext⟩
end Go.Proofs.Ytmkaphfdgdkaoaa
