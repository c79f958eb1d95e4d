/- Contract of spans.Run, by the symbolic run. -/
import Derived.Test.YtmkaphfdgdkaoaaLiV
import Derived.Test.YtmkaphfdgdkaoaaSpA
import Derived.Test.YtmkaphfdgdkaoaaProg
import Derived.Laws.Externs
set_option linter.unusedVariables false
set_option linter.unusedSimpArgs false
namespace Go.Proofs.Ytmkaphfdgdkaoaa
open Go.RowKit Go.ChangeShapes Go.WideShapes

theorem Span.eta (a : Span) : (⟨a.reg, a.fr, a.to, a.ov⟩ : Span) = a := rfl
def Span.ok (a : Span) : Prop := inK .i64 a.reg = true ∧ inK .i64 a.fr = true ∧ inK .i64 a.to = true
def kSpan : List CK := [.int .i64, .int .i64, .int .i64, .bool]
def z_Span : List C := [.int .i64 (.lit 0), .int .i64 (.lit 0), .int .i64 (.lit 0), .bool (.tt false)]
theorem grd_Span : Try.prog.eqGuardType Try.prog.depth 47 = false := by kernel_rfl
theorem cells47_Span : Try.prog.cellsOf 47 = 4 := by kernel_rfl
theorem cells3_Span : Try.prog.cellsOf 3 = 1 := by kernel_rfl
theorem cells4_Span : Try.prog.cellsOf 4 = 1 := by kernel_rfl
set_option maxRecDepth 100000 in
theorem kl_Span (vs : List Value) (hv : kindsV vs z_Span) : Try.prog.keyLits 6 47 vs = some (litsOf vs) := by
  obtain ⟨x0, _, rfl, g0, hv⟩ := kindsV_int hv
  obtain ⟨x1, _, rfl, g1, hv⟩ := kindsV_int hv
  obtain ⟨x2, _, rfl, g2, hv⟩ := kindsV_int hv
  obtain ⟨x3, _, rfl, hv⟩ := kindsV_bool hv
  obtain rfl := kindsV_nil hv
  simp [Program.keyLits, Try.underlying47, Try.underlying3, Try.underlying4, cells47_Span, cells3_Span, cells4_Span, inK_wf, litsOf, g0, g1, g2]
theorem fm_Span (vs : List Value) (hv : kindsV vs z_Span) : (Value.agg vs.toArray).formed Try.prog 47 = true := by
  obtain ⟨x0, _, rfl, g0, hv⟩ := kindsV_int hv
  obtain ⟨x1, _, rfl, g1, hv⟩ := kindsV_int hv
  obtain ⟨x2, _, rfl, g2, hv⟩ := kindsV_int hv
  obtain ⟨x3, _, rfl, hv⟩ := kindsV_bool hv
  obtain rfl := kindsV_nil hv
  kernel_rfl
theorem eq_Span (vs us : List Value) (hv : kindsV vs z_Span) (hu : kindsV us z_Span) (w : World) : (Op.equal 47 (.agg vs.toArray) (.agg us.toArray)).run Try.prog w = .ok (eqVs vs us) w :=
  eq_of_keys (by kernel_rfl) fm_Span 6 kl_Span vs us hv hu w
def tys_SpB : List (Nat × TI) := [(3, ⟨false, 1, [.int .i64 (.lit 0)], [], none, some .i64, false, false, none, 8, false, none, false⟩),
 (4, ⟨false, 1, [.bool (.tt false)], [], none, none, false, true, none, 1, false, none, false⟩),
 (22, ⟨false, 1, [.nsl], [], none, none, false, false, some 33, 24, false, none, false⟩),
 (24, ⟨true, 2, [.int .i64 (.lit 0), .nsl], [(0, 3), (1, 22)], none, none, false, false, none, 32, false, none, false⟩),
 (27, ⟨false, 1, [.nsl], [], none, none, false, false, some 3, 24, false, none, false⟩),
 (28, ⟨false, 1, [.int .i64 (.lit 0)], [], none, some .i64, false, false, none, 8, false, none, false⟩),
 (31, ⟨false, 1, [.int .i8 (.lit 0)], [], none, some .i8, false, false, none, 1, false, none, false⟩),
 (33, ⟨true, 9, [.int .i8 (.lit 0), .int .i8 (.lit 0), .int .i8 (.lit 0), .int .i8 (.lit 0), .bool (.tt false), .int .i8 (.lit 0), .int .i8 (.lit 0), .int .i64 (.lit 0), .int .i64 (.lit 0)], [(0, 31), (1, 31), (2, 31), (3, 31), (4, 4), (5, 31), (6, 31), (7, 3), (8, 3)], none, none, true, false, none, 24, false, none, false⟩),
 (42, ⟨false, 1, [.nsl], [], none, none, false, false, some 47, 24, false, none, false⟩),
 (47, ⟨true, 4, [.int .i64 (.lit 0), .int .i64 (.lit 0), .int .i64 (.lit 0), .bool (.tt false)], [(0, 3), (1, 3), (2, 3), (3, 4)], none, none, true, false, none, 32, false, none, false⟩)]
set_option maxRecDepth 100000 in
theorem tysck_SpB : (tys_SpB.all fun p => ckTI Try.prog p.1 p.2) = true := by kernel_rfl
theorem tyseq_SpB : (tys_SpB.all fun p => !p.2.eqok || ((Nat.beq p.1 33 && kindsC p.2.zero z_Ins) || (Nat.beq p.1 47 && kindsC p.2.zero z_Span))) = true := by kernel_rfl
theorem tyskn_SpB : (tys_SpB.all fun p => !p.2.keyok) = true := by kernel_rfl
theorem tysok_SpB : ∀ t i, (t, i) ∈ tys_SpB → TIok Try.prog t i := by
  intro t i h
  refine TIok_of (all_at (f := ckTI Try.prog) tysck_SpB h) (fun he => ?_) (fun he => ?_) (fun he => ?_)
  · have h1 := List.all_eq_true.1 tyseq_SpB (t, i) h
    simp only [he, Bool.not_true, Bool.false_or, Bool.or_eq_true, Bool.and_eq_true] at h1
    rcases h1 with h1 | h1
    · have hs := h1.2
      obtain rfl := Nat.eq_of_beq_eq_true h1.1
      exact fun vs us hv hu => eq_Ins vs us (kindsV_of hs hv) (kindsV_of hs hu)
    · have hs := h1.2
      obtain rfl := Nat.eq_of_beq_eq_true h1.1
      exact fun vs us hv hu => eq_Span vs us (kindsV_of hs hv) (kindsV_of hs hu)
  · have h1 := List.all_eq_true.1 tyseq_SpB (t, i) h
    simp only [he, Bool.not_true, Bool.false_or, Bool.or_eq_true, Bool.and_eq_true] at h1
    rcases h1 with h1 | h1
    · have hs := h1.2
      obtain rfl := Nat.eq_of_beq_eq_true h1.1
      exact grd_Ins
    · have hs := h1.2
      obtain rfl := Nat.eq_of_beq_eq_true h1.1
      exact grd_Span
  · have h1 := List.all_eq_true.1 tyskn_SpB (t, i) h
    simp [he] at h1
def sM_srun (key : Nat) : Sm := ⟨28, key, [.agg kProg], [.one (.sl [some .i64, some .i64, some .i64, none] 47), .one (.int .i64)], true⟩
def sV_srun (pr : Prog) : List Dt := [.l ((srun pr).1), .z ((srun pr).2)]
def sF_srun : List Dt → List Dt
  | [.z x0, .l x1] => sV_srun ⟨x0, x1⟩
  | _ => []
set_option maxRecDepth 100000 in
def sT_srun : Tr :=
(.call 0 ([.sl [some .i64] 3] ++ [.sl [some .i64] 3] ++ [.int .i64]) (.cons (.var 0) (.consl (.lvar 1) .nil)) 2
(.br (.eq (.var 4) (.lit 0))
(.loop 0 5 [.int .i64, .list [some .i64, some .i64, some .i64, none]] (.cons (.lit 0) (.consl .lnil .nil))
(.br (.lt (.var 5) (.lit 11))
(.loop 1 7 [.int .i64, .list [some .i64], .int .i64] (.cons (.lit 0) (.consl .lnil (.cons (.lit 0) .nil)))
(.br (.lt (.var 7) (.len (.lvar 2)))
(.br (.lt (.var 7) (.lit 0))
.panic
(.br (.lt (.var 7) (.len (.lvar 3)))
(.br (.lt (.var 7) (.len (.lvar 1)))
(.call 1 ([.int .i64]) (.cons (.get (.lvar 1) (.var 7) 0) (.cons (.get (.lvar 1) (.var 7) 1) (.cons (.get (.lvar 1) (.var 7) 2) (.cons (.get (.lvar 1) (.var 7) 3) (.consb (.getb (.lvar 1) (.var 7) 4) (.cons (.get (.lvar 1) (.var 7) 5) (.cons (.get (.lvar 1) (.var 7) 6) (.cons (.get (.lvar 1) (.var 7) 7) (.cons (.get (.lvar 1) (.var 7) 8) .nil))))))))) 10
(.br (.lt (.var 5) (.lit 0))
.panic
(.br (.eq (.bin .and .i64 (.bin .shr .i64 (.bin .or .i64 (.bin .or .i64 (.get (.lvar 2) (.var 7) 0) (.get (.lvar 3) (.var 7) 0)) (.var 10)) (.var 5)) (.lit 1)) (.lit 1))
(.br (.lt (.len (.lvar 8)) (.lit 1073741824))
(.next 1 (.cons (.bin .add .i64 (.var 7) (.lit 1)) (.consl (.lapp (.lvar 8) (.cons (.var 7) .nil)) (.cons (.bin .or .i64 (.var 9) (.bin .or .i64 (.get (.lvar 2) (.var 7) 0) (.get (.lvar 3) (.var 7) 0))) .nil))))
.panic)
(.next 1 (.cons (.bin .add .i64 (.var 7) (.lit 1)) (.consl (.lvar 8) (.cons (.bin .or .i64 (.var 9) (.bin .or .i64 (.get (.lvar 2) (.var 7) 0) (.get (.lvar 3) (.var 7) 0))) .nil)))))))
.panic)
.panic))
(.br (.eq (.var 5) (.lit 1))
(.br (.lt (.len (.lvar 8)) (.lit 1073741824))
(.br (.lt (.var 5) (.lit 0))
.panic
(.br (.eq (.bin .and .i64 (.bin .shr .i64 (.var 9) (.var 5)) (.lit 1)) (.lit 1))
(.br (.lt (.lit 0) (.len (.lcat (.lapp .lnil (.cons (.lit 0) .nil)) (.lvar 8))))
(.br (.lt (.bin .sub .i64 (.conv .i64 (.len (.lcat (.lapp .lnil (.cons (.lit 0) .nil)) (.lvar 8)))) (.lit 1)) (.lit 0))
.panic
(.br (.lt (.bin .sub .i64 (.conv .i64 (.len (.lcat (.lapp .lnil (.cons (.lit 0) .nil)) (.lvar 8)))) (.lit 1)) (.len (.lcat (.lapp .lnil (.cons (.lit 0) .nil)) (.lvar 8))))
(.call 2 ([.bool]) (.cons (.var 0) (.consl (.lvar 1) (.cons (.var 5) .nil))) 10
(.br (.lt (.len (.lvar 6)) (.lit 1073741824))
(.next 0 (.cons (.bin .add .i64 (.var 5) (.lit 1)) (.consl (.lapp (.lvar 6) (.cons (.var 5) (.cons (.get (.lcat (.lapp .lnil (.cons (.lit 0) .nil)) (.lvar 8)) (.lit 0) 0) (.cons (.get (.lcat (.lapp .lnil (.cons (.lit 0) .nil)) (.lvar 8)) (.bin .sub .i64 (.conv .i64 (.len (.lcat (.lapp .lnil (.cons (.lit 0) .nil)) (.lvar 8)))) (.lit 1)) 0) (.consb (.bvar 10) .nil))))) .nil)))
.panic))
.panic))
.panic)
(.next 0 (.cons (.bin .add .i64 (.var 5) (.lit 1)) (.consl (.lvar 6) .nil)))))
.panic)
(.br (.eq (.var 5) (.lit 10))
(.br (.lt (.len (.lvar 8)) (.lit 1073741824))
(.br (.lt (.var 5) (.lit 0))
.panic
(.br (.eq (.bin .and .i64 (.bin .shr .i64 (.var 9) (.var 5)) (.lit 1)) (.lit 1))
(.br (.lt (.lit 0) (.len (.lcat (.lapp .lnil (.cons (.lit 0) .nil)) (.lvar 8))))
(.br (.lt (.bin .sub .i64 (.conv .i64 (.len (.lcat (.lapp .lnil (.cons (.lit 0) .nil)) (.lvar 8)))) (.lit 1)) (.lit 0))
.panic
(.br (.lt (.bin .sub .i64 (.conv .i64 (.len (.lcat (.lapp .lnil (.cons (.lit 0) .nil)) (.lvar 8)))) (.lit 1)) (.len (.lcat (.lapp .lnil (.cons (.lit 0) .nil)) (.lvar 8))))
(.call 2 ([.bool]) (.cons (.var 0) (.consl (.lvar 1) (.cons (.var 5) .nil))) 10
(.br (.lt (.len (.lvar 6)) (.lit 1073741824))
(.next 0 (.cons (.bin .add .i64 (.var 5) (.lit 1)) (.consl (.lapp (.lvar 6) (.cons (.var 5) (.cons (.get (.lcat (.lapp .lnil (.cons (.lit 0) .nil)) (.lvar 8)) (.lit 0) 0) (.cons (.get (.lcat (.lapp .lnil (.cons (.lit 0) .nil)) (.lvar 8)) (.bin .sub .i64 (.conv .i64 (.len (.lcat (.lapp .lnil (.cons (.lit 0) .nil)) (.lvar 8)))) (.lit 1)) 0) (.consb (.bvar 10) .nil))))) .nil)))
.panic))
.panic))
.panic)
(.next 0 (.cons (.bin .add .i64 (.var 5) (.lit 1)) (.consl (.lvar 6) .nil)))))
.panic)
(.br (.lt (.var 5) (.lit 0))
.panic
(.br (.eq (.bin .and .i64 (.bin .shr .i64 (.var 9) (.var 5)) (.lit 1)) (.lit 1))
(.br (.lt (.lit 0) (.len (.lvar 8)))
(.br (.lt (.bin .sub .i64 (.len (.lvar 8)) (.lit 1)) (.lit 0))
.panic
(.br (.lt (.bin .sub .i64 (.len (.lvar 8)) (.lit 1)) (.len (.lvar 8)))
(.call 2 ([.bool]) (.cons (.var 0) (.consl (.lvar 1) (.cons (.var 5) .nil))) 10
(.br (.lt (.len (.lvar 6)) (.lit 1073741824))
(.next 0 (.cons (.bin .add .i64 (.var 5) (.lit 1)) (.consl (.lapp (.lvar 6) (.cons (.var 5) (.cons (.get (.lvar 8) (.lit 0) 0) (.cons (.get (.lvar 8) (.bin .sub .i64 (.len (.lvar 8)) (.lit 1)) 0) (.consb (.bvar 10) .nil))))) .nil)))
.panic))
.panic))
.panic)
(.next 0 (.cons (.bin .add .i64 (.var 5) (.lit 1)) (.consl (.lvar 6) .nil)))))))))
(.leaf (.consl (.lvar 6) (.cons (.lit 0) .nil)))))
(.leaf (.consl .lnil (.cons (.var 4) .nil)))))
def sP_srun : Spec := ⟨fun k => match k with | 0 => sF_lrun | 1 => sF_vwr | 2 => sF_lcross | _ => fun _ => [], fun k => match k with | 0 => sQ_lrun | 2 => sQ_lcross | _ => fun _ => True⟩
set_option maxRecDepth 100000 in
theorem sR_srun : treeIs tys_SpB [sM_lrun 0, sM_vwr 1, sM_lcross 2] [] [(5, [.tmpI 20 .i64, .tmpS 2 [some .i64, some .i64, some .i64, none] 47, .top 21, .top 22, .top 6, .top 7, .top 8, .top 23, .top 24, .top 25, .top 26, .top 27, .top 9, .top 28, .top 29, .top 30, .top 31, .top 32, .top 33, .top 34, .top 35, .top 36, .top 37, .top 38, .top 39, .top 40, .top 41, .top 42, .top 43, .top 44, .top 45, .top 46, .top 47, .top 48, .top 49, .top 50, .top 51, .top 52, .top 53, .top 54, .top 55, .top 56, .top 57, .top 58, .top 59, .top 60, .top 61, .top 62, .top 63, .top 64, .top 65, .top 66, .top 67, .top 68, .top 69, .top 70, .top 71, .top 72, .top 73, .top 74, .top 10, .top 75, .top 76, .top 77, .top 78, .top 79, .top 80, .top 81, .top 82, .top 83, .top 84, .top 85, .top 86, .top 87, .top 88, .top 89, .top 90, .top 91, .top 92, .top 93, .top 94, .top 95, .top 96]), (10, [.tmpI 25 .i64, .tmpS 7 [some .i64] 3, .tmpI 8 .i64, .top 26, .top 27, .top 9, .top 28, .top 29, .top 30, .top 31, .top 32, .top 33, .top 34, .top 35, .top 36, .top 37, .top 38, .top 39, .top 40, .top 41, .top 42, .top 43, .top 44, .top 45, .top 46, .top 47, .top 48, .top 49, .top 50, .top 51, .top 52, .top 53, .top 54, .top 55, .top 56, .top 57, .top 58, .top 59, .top 60, .top 61, .top 62, .top 63])] [] 200 Try.f28 [.agg kProg] [.one (.sl [some .i64, some .i64, some .i64, none] 47), .one (.int .i64)] true [.int .i64, .list [some .i8, some .i8, some .i8, some .i8, none, some .i8, some .i8, some .i64, some .i64]] sT_srun := ⟨by kernel_rfl, by kernel_rfl, by kernel_rfl⟩
def sQ_srun : List Dt → Prop
  | [.z x0, .l x1] => let f (pr : Prog) : Prop := pr.l.length ≤ maxLen; f ⟨x0, x1⟩
  | _ => False
set_option maxRecDepth 100000 in
set_option maxHeartbeats 8000000 in
theorem sX_srun (pr : Prog) (hpr : Prog.ok pr) (hp : sQ_srun [.z pr.ctx, .l pr.l]) (ρ : Env) (g : varsD ρ 0 [.int .i64, .list [some .i8, some .i8, some .i8, some .i8, none, some .i8, some .i8, some .i64, some .i64]] = [.z pr.ctx, .l pr.l]) : sT_srun.asks sP_srun (fun ρ e => e.D ρ = sF_srun [.z pr.ctx, .l pr.l]) ρ fun _ _ => False := by
  simp only [sQ_srun, b2i_one, Ins.eta, Prog.eta, insAt_mk, Span.eta, spanAt_mk] at hp
  have keepg := g
  simp only [varsD, varD, List.cons.injEq, Dt.z.injEq, Dt.l.injEq, b2i_eq_iff, Nat.reduceAdd, and_true] at g
  simp only [sT_srun, sP_srun, sF_lrun, sF_vwr, sF_lcross, sV_lrun, sV_vwr, sV_lcross, sF_srun, sV_srun, sQ_lrun, sQ_lcross, Tr.asks, upd_same, okDs, okD, eqs, E.I, E.B, E.L, E.R, E.D, E.vs, dI, dB, dL, varD, varsD, List.getElem?_cons_zero, List.getElem?_cons_succ, List.cons_append, List.nil_append, Nat.zero_add, Nat.add_zero, Nat.reduceAdd, and_true, true_and, b2i_one, -eq_self, Ins.eta, Prog.eta, insAt_mk, Span.eta, spanAt_mk, g]
  obtain ⟨k0_i0, k0_l1⟩ := g
  refine ⟨?_, ?_⟩
  · exact hp
  intro e; have k0_l2 := e.1; have k0_l3 := e.2.1; (try simp only [e, Ins.eta, Prog.eta, insAt_mk, Span.eta, spanAt_mk, -eq_self]); clear e
  refine ⟨fun c0 => ?_, fun c0 => ?_⟩
  have hok : (icheck pr).2 = 0 := (lrun_e pr).symm.trans (eqI c0)
  have hF := lrun_fix hp hok
  obtain ⟨_, hn1, hn64⟩ := (icheck_ok hp hok).1
  rw [lrun_l hok] at k0_l2 k0_l3
  refine ⟨fun ds => ∃ r : Nat, ds = [.z (r : Int), .l (lspans pr r)] ∧ r ≤ 11, fun ds => 11 - (dI ds 0).toNat, ⟨0, rfl, Nat.zero_le _⟩, ?_⟩
  intro ρ1 ha1 _ hi1
  obtain ⟨r, hds, hr⟩ := hi1
  simp only [List.cons.injEq, Dt.z.injEq, Dt.l.injEq, b2i_eq_iff, and_true] at hds
  obtain ⟨k1_i5, k1_l6⟩ := hds
  have k1_i0 : ρ1.i 0 = _ := (ha1 0 (by decide)).1.symm.trans k0_i0
  have k1_l1 : ρ1.l 1 = _ := (ha1 1 (by decide)).2.2.symm.trans k0_l1
  have k1_l2 : ρ1.l 2 = _ := (ha1 2 (by decide)).2.2.symm.trans k0_l2
  have k1_l3 : ρ1.l 3 = _ := (ha1 3 (by decide)).2.2.symm.trans k0_l3
  simp only [k1_i0, k1_l1, k1_l2, k1_l3, k1_i5, k1_l6, insAt_mk, -eq_self]
  refine ⟨fun c1 => ?_, fun c1 => ?_⟩
  have hr2 : r < 11 := Int.ofNat_lt.1 (of_decide_eq_true c1)
  refine ⟨fun ds => ∃ i : Nat, ds = [.z (i : Int), .l (rowsN (plcs pr r i)), .z (alB pr i).toInt] ∧ i ≤ pr.l.length, fun ds => pr.l.length - (dI ds 0).toNat, ⟨0, rfl, Nat.zero_le _⟩, ?_⟩
  intro ρ2 ha2 _ hi2
  obtain ⟨i, hds, hi⟩ := hi2
  simp only [List.cons.injEq, Dt.z.injEq, Dt.l.injEq, b2i_eq_iff, and_true] at hds
  obtain ⟨k2_i7, k2_l8, k2_i9⟩ := hds
  have k2_i0 : ρ2.i 0 = _ := (ha2 0 (by decide)).1.symm.trans k1_i0
  have k2_l1 : ρ2.l 1 = _ := (ha2 1 (by decide)).2.2.symm.trans k1_l1
  have k2_l2 : ρ2.l 2 = _ := (ha2 2 (by decide)).2.2.symm.trans k1_l2
  have k2_l3 : ρ2.l 3 = _ := (ha2 3 (by decide)).2.2.symm.trans k1_l3
  have k2_i5 : ρ2.i 5 = _ := (ha2 5 (by decide)).1.symm.trans k1_i5
  have k2_l6 : ρ2.l 6 = _ := (ha2 6 (by decide)).2.2.symm.trans k1_l6
  simp only [k2_i0, k2_l1, k2_l2, k2_l3, k2_i5, k2_l6, k2_i7, k2_l8, k2_i9, insAt_mk, -eq_self]
  refine ⟨fun c2 => ?_, fun c2 => ?_⟩
  refine ⟨fun c3 => ?_, fun c3 => ?_⟩
  · exact absurd (of_decide_eq_true c3) (by omega)
  refine ⟨fun c4 => ?_, fun c4 => ?_⟩
  refine ⟨fun c5 => ?_, fun c5 => ?_⟩
  intro e; (try simp only [e, Ins.eta, Prog.eta, insAt_mk, Span.eta, spanAt_mk, -eq_self]); clear e
  refine ⟨fun c6 => ?_, fun c6 => ?_⟩
  · exact absurd (of_decide_eq_true c6) (by omega)
  refine ⟨fun c7 => ?_, fun c7 => ?_⟩
  refine ⟨fun c8 => ?_, fun c8 => ?_⟩
  · have hi2 : i < pr.l.length := by have q := Int.ofNat_lt.1 (of_decide_eq_true c2); rwa [rows_len, hF.li] at q
    rw [onT hF hi2 hr2, b2i_1] at c7
    rw [alS hF hi2, addN hi2 hp, rowsN_app, ← plcs_y c7]
    exact ⟨⟨i + 1, rfl, hi2⟩, by show pr.l.length - (((i + 1 : Nat) : Int)).toNat < pr.l.length - ((i : Int)).toNat; omega⟩
  · have hi2 : i < pr.l.length := by have q := Int.ofNat_lt.1 (of_decide_eq_true c2); rwa [rows_len, hF.li] at q
    rw [rowsN_len] at c8
    have := plcs_len pr r i
    exact absurd (of_decide_eq_false c8) (by omega)
  · have hi2 : i < pr.l.length := by have q := Int.ofNat_lt.1 (of_decide_eq_true c2); rwa [rows_len, hF.li] at q
    rw [onT hF hi2 hr2, b2i_1] at c7
    rw [alS hF hi2, addN hi2 hp, ← plcs_n c7]
    exact ⟨⟨i + 1, rfl, hi2⟩, by show pr.l.length - (((i + 1 : Nat) : Int)).toNat < pr.l.length - ((i : Int)).toNat; omega⟩
  · have hi2 : i < pr.l.length := by have q := Int.ofNat_lt.1 (of_decide_eq_true c2); rwa [rows_len, hF.li] at q
    exact absurd (of_decide_eq_false c5) (by omega)
  · have hi2 : i < pr.l.length := by have q := Int.ofNat_lt.1 (of_decide_eq_true c2); rwa [rows_len, hF.li] at q
    rw [rows_len, hF.lo] at c4
    exact absurd (of_decide_eq_false c4) (by omega)
  refine ⟨fun c9 => ?_, fun c9 => ?_⟩
  refine ⟨fun c10 => ?_, fun c10 => ?_⟩
  refine ⟨fun c11 => ?_, fun c11 => ?_⟩
  · exact absurd (of_decide_eq_true c11) (by omega)
  refine ⟨fun c12 => ?_, fun c12 => ?_⟩
  refine ⟨fun c13 => ?_, fun c13 => ?_⟩
  refine ⟨fun c14 => ?_, fun c14 => ?_⟩
  · have hie : i = pr.l.length := by have q := of_decide_eq_false c2; rw [rows_len, hF.li] at q; omega
    subst hie
    have hpl := plcs_len pr r pr.l.length
    rw [rows0, last_w (by simp) (by simp; omega)] at c14
    exact absurd (of_decide_eq_true c14) (by omega)
  refine ⟨fun c15 => ?_, fun c15 => ?_⟩
  refine ⟨?_, ?_⟩
  · exact hp
  intro e; (try simp only [e, Ins.eta, Prog.eta, insAt_mk, Span.eta, spanAt_mk, -eq_self]); clear e
  refine ⟨fun c16 => ?_, fun c16 => ?_⟩
  · have hie : i = pr.l.length := by have q := of_decide_eq_false c2; rw [rows_len, hF.li] at q; omega
    subst hie
    rw [alT pr _ hr2, b2i_1] at c12
    have hpl := plcs_len pr r pr.l.length
    rw [rows0, last_w (by simp) (by simp; omega), gt_last (by simp), last_0, gt_head (by simp), show frO (0 :: plcs pr r pr.l.length) = 0 from rfl, ← spn_0 (p := pr) (r := r) (by have := eqI c9; omega)]
    rw [show (lspans pr r ++ [[(r : Int), frP r (plcs pr r pr.l.length), (((plcs pr r pr.l.length).getLastD 0 : Nat) : Int), b2i (lcross pr (r : Int))]]) = lspans pr (r + 1) from (lspans_y c12).symm, addN hr2 (by decide)]
    exact ⟨⟨r + 1, rfl, hr2⟩, by show 11 - (((r + 1 : Nat) : Int)).toNat < 11 - ((r : Int)).toNat; omega⟩
  · have := lspans_len pr r
    exact absurd (of_decide_eq_false c16) (by omega)
  · have hie : i = pr.l.length := by have q := of_decide_eq_false c2; rw [rows_len, hF.li] at q; omega
    subst hie
    have hpl := plcs_len pr r pr.l.length
    rw [rows0, last_w (by simp) (by simp; omega)] at c15
    rw [rowsN_len] at c15
    exact absurd (of_decide_eq_false c15) (by simp; omega)
  · have hie : i = pr.l.length := by have q := of_decide_eq_false c2; rw [rows_len, hF.li] at q; omega
    subst hie
    have hpl := plcs_len pr r pr.l.length
    rw [rows0] at c13
    rw [rowsN_len] at c13
    exact absurd (of_decide_eq_false c13) (by simp <;> omega)
  · have hie : i = pr.l.length := by have q := of_decide_eq_false c2; rw [rows_len, hF.li] at q; omega
    subst hie
    rw [alT pr _ hr2, b2i_1] at c12
    rw [← lspans_n c12, addN hr2 (by decide)]
    exact ⟨⟨r + 1, rfl, hr2⟩, by show 11 - (((r + 1 : Nat) : Int)).toNat < 11 - ((r : Int)).toNat; omega⟩
  · have hie : i = pr.l.length := by have q := of_decide_eq_false c2; rw [rows_len, hF.li] at q; omega
    subst hie
    rw [rowsN_len] at c10
    have := plcs_len pr r pr.l.length
    exact absurd (of_decide_eq_false c10) (by omega)
  refine ⟨fun c17 => ?_, fun c17 => ?_⟩
  refine ⟨fun c18 => ?_, fun c18 => ?_⟩
  refine ⟨fun c19 => ?_, fun c19 => ?_⟩
  · exact absurd (of_decide_eq_true c19) (by omega)
  refine ⟨fun c20 => ?_, fun c20 => ?_⟩
  refine ⟨fun c21 => ?_, fun c21 => ?_⟩
  refine ⟨fun c22 => ?_, fun c22 => ?_⟩
  · have hie : i = pr.l.length := by have q := of_decide_eq_false c2; rw [rows_len, hF.li] at q; omega
    subst hie
    have hpl := plcs_len pr r pr.l.length
    rw [rows0, last_w (by simp) (by simp; omega)] at c22
    exact absurd (of_decide_eq_true c22) (by omega)
  refine ⟨fun c23 => ?_, fun c23 => ?_⟩
  refine ⟨?_, ?_⟩
  · exact hp
  intro e; (try simp only [e, Ins.eta, Prog.eta, insAt_mk, Span.eta, spanAt_mk, -eq_self]); clear e
  refine ⟨fun c24 => ?_, fun c24 => ?_⟩
  · have hie : i = pr.l.length := by have q := of_decide_eq_false c2; rw [rows_len, hF.li] at q; omega
    subst hie
    rw [alT pr _ hr2, b2i_1] at c20
    have hpl := plcs_len pr r pr.l.length
    rw [rows0, last_w (by simp) (by simp; omega), gt_last (by simp), last_0, gt_head (by simp), show frO (0 :: plcs pr r pr.l.length) = 0 from rfl, ← spn_0 (p := pr) (r := r) (by have := eqI c17; omega)]
    rw [show (lspans pr r ++ [[(r : Int), frP r (plcs pr r pr.l.length), (((plcs pr r pr.l.length).getLastD 0 : Nat) : Int), b2i (lcross pr (r : Int))]]) = lspans pr (r + 1) from (lspans_y c20).symm, addN hr2 (by decide)]
    exact ⟨⟨r + 1, rfl, hr2⟩, by show 11 - (((r + 1 : Nat) : Int)).toNat < 11 - ((r : Int)).toNat; omega⟩
  · have := lspans_len pr r
    exact absurd (of_decide_eq_false c24) (by omega)
  · have hie : i = pr.l.length := by have q := of_decide_eq_false c2; rw [rows_len, hF.li] at q; omega
    subst hie
    have hpl := plcs_len pr r pr.l.length
    rw [rows0, last_w (by simp) (by simp; omega)] at c23
    rw [rowsN_len] at c23
    exact absurd (of_decide_eq_false c23) (by simp; omega)
  · have hie : i = pr.l.length := by have q := of_decide_eq_false c2; rw [rows_len, hF.li] at q; omega
    subst hie
    have hpl := plcs_len pr r pr.l.length
    rw [rows0] at c21
    rw [rowsN_len] at c21
    exact absurd (of_decide_eq_false c21) (by simp <;> omega)
  · have hie : i = pr.l.length := by have q := of_decide_eq_false c2; rw [rows_len, hF.li] at q; omega
    subst hie
    rw [alT pr _ hr2, b2i_1] at c20
    rw [← lspans_n c20, addN hr2 (by decide)]
    exact ⟨⟨r + 1, rfl, hr2⟩, by show 11 - (((r + 1 : Nat) : Int)).toNat < 11 - ((r : Int)).toNat; omega⟩
  · have hie : i = pr.l.length := by have q := of_decide_eq_false c2; rw [rows_len, hF.li] at q; omega
    subst hie
    rw [rowsN_len] at c18
    have := plcs_len pr r pr.l.length
    exact absurd (of_decide_eq_false c18) (by omega)
  refine ⟨fun c25 => ?_, fun c25 => ?_⟩
  · exact absurd (of_decide_eq_true c25) (by omega)
  refine ⟨fun c26 => ?_, fun c26 => ?_⟩
  refine ⟨fun c27 => ?_, fun c27 => ?_⟩
  refine ⟨fun c28 => ?_, fun c28 => ?_⟩
  · have hie : i = pr.l.length := by have q := of_decide_eq_false c2; rw [rows_len, hF.li] at q; omega
    subst hie
    rw [alT pr _ hr2, b2i_1] at c26
    have hne := plcs_ne c26
    have hpl := plcs_len pr r pr.l.length
    have hpos := List.length_pos_iff.2 hne
    rw [last_i hne (by omega)] at c28
    exact absurd (of_decide_eq_true c28) (by omega)
  refine ⟨fun c29 => ?_, fun c29 => ?_⟩
  refine ⟨?_, ?_⟩
  · exact hp
  intro e; (try simp only [e, Ins.eta, Prog.eta, insAt_mk, Span.eta, spanAt_mk, -eq_self]); clear e
  refine ⟨fun c30 => ?_, fun c30 => ?_⟩
  · have hie : i = pr.l.length := by have q := of_decide_eq_false c2; rw [rows_len, hF.li] at q; omega
    subst hie
    rw [alT pr _ hr2, b2i_1] at c26
    have hne := plcs_ne c26
    have hpl := plcs_len pr r pr.l.length
    rw [last_i hne (by omega), gt_last hne, gt_head hne, ← spn_f (fun e => neI c9 (by rw [e]; rfl)) (fun e => neI c17 (by rw [e]; rfl))]
    rw [show (lspans pr r ++ [[(r : Int), frP r (plcs pr r pr.l.length), (((plcs pr r pr.l.length).getLastD 0 : Nat) : Int), b2i (lcross pr (r : Int))]]) = lspans pr (r + 1) from (lspans_y c26).symm, addN hr2 (by decide)]
    exact ⟨⟨r + 1, rfl, hr2⟩, by show 11 - (((r + 1 : Nat) : Int)).toNat < 11 - ((r : Int)).toNat; omega⟩
  · have := lspans_len pr r
    exact absurd (of_decide_eq_false c30) (by omega)
  · have hie : i = pr.l.length := by have q := of_decide_eq_false c2; rw [rows_len, hF.li] at q; omega
    subst hie
    rw [alT pr _ hr2, b2i_1] at c26
    have hne := plcs_ne c26
    have hpl := plcs_len pr r pr.l.length
    have hpos := List.length_pos_iff.2 hne
    rw [last_i hne (by omega), rowsN_len] at c29
    exact absurd (of_decide_eq_false c29) (by omega)
  · have hie : i = pr.l.length := by have q := of_decide_eq_false c2; rw [rows_len, hF.li] at q; omega
    subst hie
    rw [alT pr _ hr2, b2i_1] at c26
    have hne := plcs_ne c26
    have hpl := plcs_len pr r pr.l.length
    have hpos := List.length_pos_iff.2 hne
    rw [rowsN_len] at c27
    exact absurd (of_decide_eq_false c27) (by omega)
  · have hie : i = pr.l.length := by have q := of_decide_eq_false c2; rw [rows_len, hF.li] at q; omega
    subst hie
    rw [alT pr _ hr2, b2i_1] at c26
    rw [← lspans_n c26, addN hr2 (by decide)]
    exact ⟨⟨r + 1, rfl, hr2⟩, by show 11 - (((r + 1 : Nat) : Int)).toNat < 11 - ((r : Int)).toNat; omega⟩
  · obtain rfl : r = 11 := by have := of_decide_eq_false c1; omega
    rw [srun_y hok]; try rfl
  · rw [srun_n (fun h => neI c0 ((lrun_e pr).trans h)), lrun_e pr]; try rfl
theorem sK_srun {sp : Spec} {key : Nat} (hF : sp.F key = sF_srun) (hP : sp.pre key = sQ_srun) : SmOk Try.prog sp (sM_srun key) :=
  fun_ok (s := sM_srun key) hF hP (by kernel_rfl) tysok_SpB (smc (sK_lrun rfl rfl) (smc (sK_vwr rfl) (smc (sK_lcross rfl rfl) sm0))) Try.func28 fn0 sR_srun (.inr (fun xs h L hL => by unfold sQ_srun at h; split at h <;> first | exact h.elim | (simp at hL; subst hL; exact h))) (fun x0 gx0 x1 gx1 hp ρ g => sX_srun ⟨x0, x1⟩ ⟨gx0, gx1⟩ hp ρ g)
end Go.Proofs.Ytmkaphfdgdkaoaa
