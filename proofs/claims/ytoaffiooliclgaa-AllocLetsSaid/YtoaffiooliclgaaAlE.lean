/- Spans that may be, held against one another, by the symbolic run. -/
import Derived.Test.YtoaffiooliclgaaAlD
import Derived.Test.YtoaffiooliclgaaAlT
import Derived.DeepKeys3
import Derived.Test.YtoaffiooliclgaaProg
import Derived.Laws.Externs
set_option linter.unusedVariables false
set_option linter.unusedSimpArgs false
namespace Go.Proofs.Ytoaffiooliclgaa
open Go.RowKit Go.ChangeShapes Go.WideShapes

theorem Span.eta (a : Span) : (⟨a.reg, a.fr, a.to, a.ov⟩ : Span) = a := rfl
def Span.ok (a : Span) : Prop := inK .i64 a.reg = true ∧ inK .i64 a.fr = true ∧ inK .i64 a.to = true
def kSpan : List CK := [.int .i64, .int .i64, .int .i64, .bool]
theorem Place.eta (a : Place) : (⟨a.kd, a.n⟩ : Place) = a := rfl
def Place.ok (a : Place) : Prop := inK .i8 a.kd = true ∧ inK .i8 a.n = true
def kPlace : List CK := [.int .i8, .int .i8]
theorem P11.eta (a : P11) : (⟨a.k0, a.n0, a.k1, a.n1, a.k2, a.n2, a.k3, a.n3, a.k4, a.n4, a.k5, a.n5, a.k6, a.n6, a.k7, a.n7, a.k8, a.n8, a.k9, a.n9, a.k10, a.n10⟩ : P11) = a := rfl
def P11.ok (a : P11) : Prop := inK .i8 a.k0 = true ∧ inK .i8 a.n0 = true ∧ inK .i8 a.k1 = true ∧ inK .i8 a.n1 = true ∧ inK .i8 a.k2 = true ∧ inK .i8 a.n2 = true ∧ inK .i8 a.k3 = true ∧ inK .i8 a.n3 = true ∧ inK .i8 a.k4 = true ∧ inK .i8 a.n4 = true ∧ inK .i8 a.k5 = true ∧ inK .i8 a.n5 = true ∧ inK .i8 a.k6 = true ∧ inK .i8 a.n6 = true ∧ inK .i8 a.k7 = true ∧ inK .i8 a.n7 = true ∧ inK .i8 a.k8 = true ∧ inK .i8 a.n8 = true ∧ inK .i8 a.k9 = true ∧ inK .i8 a.n9 = true ∧ inK .i8 a.k10 = true ∧ inK .i8 a.n10 = true
def kP11 : List CK := [.int .i8, .int .i8, .int .i8, .int .i8, .int .i8, .int .i8, .int .i8, .int .i8, .int .i8, .int .i8, .int .i8, .int .i8, .int .i8, .int .i8, .int .i8, .int .i8, .int .i8, .int .i8, .int .i8, .int .i8, .int .i8, .int .i8]
def z_Span : List C := [.int .i64 (.lit 0), .int .i64 (.lit 0), .int .i64 (.lit 0), .bool (.tt false)]
theorem grd_Span : Try.prog.eqGuardType Try.prog.depth 25 = false := by kernel_rfl
theorem cells25_Span : Try.prog.cellsOf 25 = 4 := by kernel_rfl
theorem cells3_Span : Try.prog.cellsOf 3 = 1 := by kernel_rfl
theorem cells4_Span : Try.prog.cellsOf 4 = 1 := by kernel_rfl
set_option maxRecDepth 100000 in
theorem kl_Span (vs : List Value) (hv : kindsV vs z_Span) : Try.prog.keyLits 6 25 vs = some (litsOf vs) := by
  obtain ⟨x0, _, rfl, g0, hv⟩ := kindsV_int hv
  obtain ⟨x1, _, rfl, g1, hv⟩ := kindsV_int hv
  obtain ⟨x2, _, rfl, g2, hv⟩ := kindsV_int hv
  obtain ⟨x3, _, rfl, hv⟩ := kindsV_bool hv
  obtain rfl := kindsV_nil hv
  simp [Program.keyLits, Try.underlying25, Try.underlying3, Try.underlying4, cells25_Span, cells3_Span, cells4_Span, inK_wf, litsOf, g0, g1, g2]
theorem fm_Span (vs : List Value) (hv : kindsV vs z_Span) : (Value.agg vs.toArray).formed Try.prog 25 = true := by
  obtain ⟨x0, _, rfl, g0, hv⟩ := kindsV_int hv
  obtain ⟨x1, _, rfl, g1, hv⟩ := kindsV_int hv
  obtain ⟨x2, _, rfl, g2, hv⟩ := kindsV_int hv
  obtain ⟨x3, _, rfl, hv⟩ := kindsV_bool hv
  obtain rfl := kindsV_nil hv
  kernel_rfl
theorem eq_Span (vs us : List Value) (hv : kindsV vs z_Span) (hu : kindsV us z_Span) (w : World) : (Op.equal 25 (.agg vs.toArray) (.agg us.toArray)).run Try.prog w = .ok (eqVs vs us) w :=
  eq_of_keys (by kernel_rfl) fm_Span 6 kl_Span vs us hv hu w
def z_Place : List C := [.int .i8 (.lit 0), .int .i8 (.lit 0)]
theorem grd_Place : Try.prog.eqGuardType Try.prog.depth 28 = false := by kernel_rfl
theorem cells28_Place : Try.prog.cellsOf 28 = 2 := by kernel_rfl
theorem cells26_Place : Try.prog.cellsOf 26 = 1 := by kernel_rfl
set_option maxRecDepth 100000 in
theorem kl_Place (vs : List Value) (hv : kindsV vs z_Place) : Try.prog.keyLits 6 28 vs = some (litsOf vs) := by
  obtain ⟨x0, _, rfl, g0, hv⟩ := kindsV_int hv
  obtain ⟨x1, _, rfl, g1, hv⟩ := kindsV_int hv
  obtain rfl := kindsV_nil hv
  simp [Program.keyLits, Try.underlying28, Try.underlying26, cells28_Place, cells26_Place, inK_wf, litsOf, g0, g1]
theorem fm_Place (vs : List Value) (hv : kindsV vs z_Place) : (Value.agg vs.toArray).formed Try.prog 28 = true := by
  obtain ⟨x0, _, rfl, g0, hv⟩ := kindsV_int hv
  obtain ⟨x1, _, rfl, g1, hv⟩ := kindsV_int hv
  obtain rfl := kindsV_nil hv
  kernel_rfl
theorem eq_Place (vs us : List Value) (hv : kindsV vs z_Place) (hu : kindsV us z_Place) (w : World) : (Op.equal 28 (.agg vs.toArray) (.agg us.toArray)).run Try.prog w = .ok (eqVs vs us) w :=
  eq_of_keys (by kernel_rfl) fm_Place 6 kl_Place vs us hv hu w
theorem key_Place (vs : List Value) (hv : kindsV vs z_Place) (b : Bool) (w : World) : (Instr.checkKey b 10000 28 (.agg vs.toArray)).run Try.prog w = .ok () w :=
  run_checkKey_deep b 9994 6 28 (by kernel_rfl) w 6 (.agg vs.toArray) _ (fm_Place vs hv) (kl_Place vs hv)
set_option maxRecDepth 100000 in
def z_P11 : List C := repC z_Place 11
theorem grd_P11 : Try.prog.eqGuardType Try.prog.depth 29 = false := by kernel_rfl
set_option maxRecDepth 100000 in
theorem kl_P11 : Kl Try.prog 7 29 z_P11 := Kl.array (d := 6) (fun vs hv => kl_Place vs hv) Try.underlying29 (by kernel_rfl) (by kernel_rfl)
set_option maxRecDepth 100000 in
theorem fm_P11 (vs : List Value) (hv : kindsV vs z_P11) : (Value.agg vs.toArray).formed Try.prog 29 = true := by
  have hl : vs.length = 22 := (kindsV_len hv).trans (by kernel_rfl)
  have hc : Try.prog.cellsOf 29 = 22 := by kernel_rfl
  simp [Value.formed, Try.underlying29, hc, hl]
theorem eq_P11 (vs us : List Value) (hv : kindsV vs z_P11) (hu : kindsV us z_P11) (w : World) : (Op.equal 29 (.agg vs.toArray) (.agg us.toArray)).run Try.prog w = .ok (eqVs vs us) w :=
  eq_of_keys (by kernel_rfl) fm_P11 7 kl_P11 vs us hv hu w
def tys_AlE : List (Nat × TI) := [(3, ⟨false, 1, [.int .i64 (.lit 0)], [], none, some .i64, false, false, none, 8, false, none, false, 0⟩),
 (4, ⟨false, 1, [.bool (.tt false)], [], none, none, false, true, none, 1, false, none, false, 0⟩),
 (22, ⟨false, 1, [.nsl], [], none, none, false, false, some 25, 24, false, none, false, 0⟩),
 (25, ⟨true, 4, [.int .i64 (.lit 0), .int .i64 (.lit 0), .int .i64 (.lit 0), .bool (.tt false)], [(0, 3), (1, 3), (2, 3), (3, 4)], none, none, false, false, none, 32, false, none, false, 0⟩),
 (49, ⟨false, 1, [.nmp], [], none, none, false, false, none, 8, false, some (3, 4), false, 0⟩),
 (53, ⟨false, 1, [.nsl], [], none, none, false, false, some 3, 24, false, none, false, 0⟩)]
set_option maxRecDepth 100000 in
theorem tysck_AlE : (tys_AlE.all fun p => ckTI Try.prog p.1 p.2) = true := by kernel_rfl
theorem tyseq_AlE : (tys_AlE.all fun p => !p.2.eqok) = true := by kernel_rfl
theorem tyskn_AlE : (tys_AlE.all fun p => !p.2.keyok) = true := by kernel_rfl
theorem tysok_AlE : ∀ t i, (t, i) ∈ tys_AlE → TIok Try.prog t i := by
  intro t i h
  refine TIok_of (all_at (f := ckTI Try.prog) tysck_AlE h) (fun he => ?_) (fun he => ?_) (fun he => ?_)
  · have h1 := List.all_eq_true.1 tyseq_AlE (t, i) h
    simp [he] at h1
  · have h1 := List.all_eq_true.1 tyseq_AlE (t, i) h
    simp [he] at h1
  · have h1 := List.all_eq_true.1 tyskn_AlE (t, i) h
    simp [he] at h1
def sM_aright (key : Nat) : Sm := ⟨11, key, [.one (.sl [some .i64, some .i64, some .i64, none] 25)], [.one .bool], false⟩
def sV_aright (l : List (List Int)) : List Dt := [.z (b2i (aRight l))]
def sF_aright : List Dt → List Dt
  | [.l x0] => sV_aright x0
  | _ => []
def sT_aright : Tr :=
(.loop 0 1 [.int .i64, .list [some .i64, none]] (.cons (.lit 0) (.consl .lnil .nil))
(.br (.lt (.var 1) (.len (.lvar 0)))
(.br (.lt (.var 1) (.lit 0))
.panic
(.br (.lt (.get (.lvar 0) (.var 1) 0) (.lit 0))
(.leaf (.consb (.tt false) .nil))
(.br (.lt (.get (.lvar 0) (.var 1) 0) (.lit 11))
(.br (.getb (.lvar 2) (.mix (.lvar 2) (.cons (.get (.lvar 0) (.var 1) 0) .nil)) 1)
(.leaf (.consb (.tt false) .nil))
(.br (.lt (.get (.lvar 0) (.var 1) 1) (.lit 0))
(.leaf (.consb (.tt false) .nil))
(.br (.lt (.get (.lvar 0) (.var 1) 2) (.get (.lvar 0) (.var 1) 1))
(.leaf (.consb (.tt false) .nil))
(.br (.lt (.get (.lvar 0) (.var 1) 2) (.lit 64))
(.br (.lt (.mix (.lvar 2) (.cons (.get (.lvar 0) (.var 1) 0) .nil)) (.len (.lvar 2)))
(.next 0 (.cons (.bin .add .i64 (.var 1) (.lit 1)) (.consl (.lput (.lvar 2) (.mix (.lvar 2) (.cons (.get (.lvar 0) (.var 1) 0) .nil)) (.cons (.get (.lvar 0) (.var 1) 0) (.consb (.tt true) .nil))) .nil)))
(.br (.lt (.len (.lvar 2)) (.lit 1073741824))
(.next 0 (.cons (.bin .add .i64 (.var 1) (.lit 1)) (.consl (.lapp (.lvar 2) (.cons (.get (.lvar 0) (.var 1) 0) (.consb (.tt true) .nil))) .nil)))
(.stuck 130)))
(.leaf (.consb (.tt false) .nil))))))
(.leaf (.consb (.tt false) .nil)))))
(.leaf (.consb (.tt true) .nil))))
def sP_aright : Spec := ⟨fun k => match k with | _ => fun _ => [], fun k => match k with | _ => fun _ => True⟩
set_option maxRecDepth 100000 in
theorem sR_aright : treeIs tys_AlE [] [] [(3, [.tmpI 9 .i64, .row 1, .top 10, .top 11, .top 12, .top 5, .top 13, .top 14, .top 15, .top 16, .top 17, .top 18, .top 19, .top 20, .top 21, .top 22, .top 23, .top 24, .top 25, .top 26, .top 27, .top 28, .top 29, .top 30, .top 31, .top 32, .top 33, .top 34, .top 35, .top 36, .top 37, .top 38, .top 39, .top 40, .top 41, .top 42, .top 43, .top 2, .top 44, .top 45, .top 46, .top 47])] [] 200 Try.f11 [.one (.sl [some .i64, some .i64, some .i64, none] 25)] [.one .bool] false [.list [some .i64, some .i64, some .i64, none]] sT_aright := ⟨by kernel_rfl, by kernel_rfl, by kernel_rfl⟩
def sQ_aright : List Dt → Prop
  | [.l x0] => let f (l : List (List Int)) : Prop := l.length ≤ maxLen; f x0
  | _ => False
set_option maxRecDepth 100000 in
set_option maxHeartbeats 8000000 in
theorem sX_aright (l : List (List Int)) (hl : RowsIn [some .i64, some .i64, some .i64, none] l) (hp : sQ_aright [.l l]) (ρ : Env) (g : varsD ρ 0 [.list [some .i64, some .i64, some .i64, none]] = [.l l]) : sT_aright.asks sP_aright (fun ρ e => e.D ρ = sF_aright [.l l]) ρ fun _ _ => False := by
  simp only [sQ_aright, b2i_one, Span.eta, Place.eta, P11.eta, spanAt_mk, spR_mk] at hp
  have keepg := g
  simp only [varsD, varD, List.cons.injEq, Dt.z.injEq, Dt.l.injEq, b2i_eq_iff, Nat.reduceAdd, and_true] at g
  simp only [sT_aright, sP_aright, sF_aright, sV_aright, Tr.asks, upd_same, okDs, okD, eqs, E.I, E.B, E.L, E.R, E.D, E.vs, dI, dB, dL, varD, varsD, List.getElem?_cons_zero, List.getElem?_cons_succ, List.cons_append, List.nil_append, Nat.zero_add, Nat.add_zero, Nat.reduceAdd, and_true, true_and, b2i_one, -eq_self, Span.eta, Place.eta, P11.eta, spanAt_mk, spR_mk, g]
  have k0_l0 := g
  refine ⟨fun ds => ∃ i : Nat, ds = [.z (i : Int), .l (seenR l i)] ∧ i ≤ l.length ∧ RightU l i, fun ds => l.length - (dI ds 0).toNat, ⟨0, rfl, Nat.zero_le _, RightU.zero l⟩, ?_⟩
  intro ρ1 ha1 _ hi1
  obtain ⟨i, hds, hi, hu⟩ := hi1
  simp only [List.cons.injEq, Dt.z.injEq, Dt.l.injEq, b2i_eq_iff, and_true] at hds
  obtain ⟨k1_i1, k1_l2⟩ := hds
  have k1_l0 : ρ1.l 0 = _ := (ha1 0 (by decide)).2.2.symm.trans k0_l0
  simp only [k1_l0, k1_i1, k1_l2, spanAt_mk, spR_mk, -eq_self]
  refine ⟨fun c0 => ?_, fun c0 => ?_⟩
  refine ⟨fun c1 => ?_, fun c1 => ?_⟩
  · exact absurd (of_decide_eq_true c1) (by omega)
  refine ⟨fun c2 => ?_, fun c2 => ?_⟩
  · rw [aR_bad1 (Int.ofNat_lt.1 (of_decide_eq_true c0)) (fun q => absurd (of_decide_eq_true c2) (Int.not_lt.2 q.1.1))]; try rfl
  refine ⟨fun c3 => ?_, fun c3 => ?_⟩
  refine ⟨fun c4 => ?_, fun c4 => ?_⟩
  · rw [aR_bad2 (Int.ofNat_lt.1 (of_decide_eq_true c0)) ((seen_get hi).1 c4)]; try rfl
  refine ⟨fun c5 => ?_, fun c5 => ?_⟩
  · rw [aR_bad1 (Int.ofNat_lt.1 (of_decide_eq_true c0)) (fun q => absurd (of_decide_eq_true c5) (Int.not_lt.2 q.2.1))]; try rfl
  refine ⟨fun c6 => ?_, fun c6 => ?_⟩
  · rw [aR_bad1 (Int.ofNat_lt.1 (of_decide_eq_true c0)) (fun q => absurd (of_decide_eq_true c6) (Int.not_lt.2 q.2.2.1))]; try rfl
  refine ⟨fun c7 => ?_, fun c7 => ?_⟩
  refine ⟨fun c8 => ?_, fun c8 => ?_⟩
  · exact absurd ((seen_get hi).2 ((seen_lt hi).1 (of_decide_eq_true c8))) (by rw [c4]; simp)
  refine ⟨fun c9 => ?_, fun c9 => ?_⟩
  · rw [addN (Int.ofNat_lt.1 (of_decide_eq_true c0)) hp, seen_step (Int.ofNat_lt.1 (of_decide_eq_true c0))]
    exact ⟨⟨i + 1, rfl, (Int.ofNat_lt.1 (of_decide_eq_true c0)), hu.succ (okS_of c2 c3 c5 c6 c7) (fun m hm e => absurd (show (gt (seenR l i) (mixI (seenR l i) [gt l (i : Int) 0]) 1 == 1) = true from (seen_get hi).2 ⟨m, hm, e⟩) (by rw [c4]; simp))⟩, by have hi0 := (Int.ofNat_lt.1 (of_decide_eq_true c0)); show l.length - (((i + 1 : Nat) : Int)).toNat < l.length - ((i : Int)).toNat; omega⟩
  · have q1 := seenR_len l i
    have q2 := hu.bd hi
    exact absurd (of_decide_eq_false c9) (by omega)
  · rw [aR_bad1 (Int.ofNat_lt.1 (of_decide_eq_true c0)) (fun q => absurd q.2.2.2 (of_decide_eq_false c7))]; try rfl
  · rw [aR_bad1 (Int.ofNat_lt.1 (of_decide_eq_true c0)) (fun q => absurd q.1.2 (of_decide_eq_false c3))]; try rfl
  · rw [aR_ok hi (fun h => of_decide_eq_false c0 (Int.ofNat_lt.2 h)) hu]; try rfl
theorem sK_aright {sp : Spec} {key : Nat} (hF : sp.F key = sF_aright) (hP : sp.pre key = sQ_aright) : SmOk Try.prog sp (sM_aright key) :=
  fun_ok (s := sM_aright key) hF hP (by kernel_rfl) tysok_AlE (sm0) Try.func11 fn0 sR_aright (.inr (fun xs h L hL => by unfold sQ_aright at h; split at h <;> first | exact h.elim | (simp at hL; subst hL; exact h))) (fun x0 gx0 hp ρ g => sX_aright x0 gx0 hp ρ g)
def sM_acmp (key : Nat) : Sm := ⟨16, key, [.one (.int .i64), .one (.int .i64)], [.one (.int .i64)], false⟩
def sV_acmp (a : Int) (b : Int) : List Dt := [.z (cmpI a b)]
def sF_acmp : List Dt → List Dt
  | [.z x0, .z x1] => sV_acmp x0 x1
  | _ => []
def sT_acmp : Tr :=
(.br (.lt (.var 0) (.var 1))
(.leaf (.cons (.lit (-1)) .nil))
(.br (.lt (.var 1) (.var 0))
(.leaf (.cons (.lit 1) .nil))
(.leaf (.cons (.lit 0) .nil))))
def sP_acmp : Spec := ⟨fun k => match k with | _ => fun _ => [], fun k => match k with | _ => fun _ => True⟩
set_option maxRecDepth 100000 in
theorem sR_acmp : treeIs tys_AlE [] [(24, Try.f24, [], [])] [] [] 200 Try.f16 [.one (.int .i64), .one (.int .i64)] [.one (.int .i64)] false [.int .i64, .int .i64] sT_acmp := ⟨by kernel_rfl, by kernel_rfl, by kernel_rfl⟩
set_option maxRecDepth 100000 in
set_option maxHeartbeats 8000000 in
theorem sX_acmp (a : Int) (ha : inK .i64 a = true) (b : Int) (hb : inK .i64 b = true) (ρ : Env) (g : varsD ρ 0 [.int .i64, .int .i64] = [.z a, .z b]) : sT_acmp.asks sP_acmp (fun ρ e => e.D ρ = sF_acmp [.z a, .z b]) ρ fun _ _ => False := by
  simp only [varsD, varD, List.cons.injEq, Dt.z.injEq, Dt.l.injEq, b2i_eq_iff, Nat.reduceAdd, and_true] at g
  simp only [sT_acmp, sP_acmp, sF_acmp, sV_acmp, Tr.asks, upd_same, okDs, okD, eqs, E.I, E.B, E.L, E.R, E.D, E.vs, dI, dB, dL, varD, varsD, List.getElem?_cons_zero, List.getElem?_cons_succ, List.cons_append, List.nil_append, Nat.zero_add, Nat.add_zero, Nat.reduceAdd, and_true, true_and, b2i_one, -eq_self, Span.eta, Place.eta, P11.eta, spanAt_mk, spR_mk, g]
  refine ⟨fun c0 => ?_, fun c0 => ?_⟩
  · have d0 := of_decide_eq_true c0
    rw [show cmpI a b = -1 by unfold cmpI; (repeat split) <;> omega]; try rfl
  refine ⟨fun c1 => ?_, fun c1 => ?_⟩
  · have d0 := of_decide_eq_false c0
    have d1 := of_decide_eq_true c1
    rw [show cmpI a b = 1 by unfold cmpI; (repeat split) <;> omega]; try rfl
  · have d0 := of_decide_eq_false c0
    have d1 := of_decide_eq_false c1
    rw [show cmpI a b = 0 by unfold cmpI; (repeat split) <;> omega]; try rfl
theorem sK_acmp {sp : Spec} {key : Nat} (hF : sp.F key = sF_acmp) (hP : sp.pre key = fun _ => True := by rfl) : SmOk Try.prog sp (sM_acmp key) :=
  fun_ok (s := sM_acmp key) hF hP (by kernel_rfl) tysok_AlE (sm0) Try.func16 (fnc Try.func24 fn0) sR_acmp (.inl rfl) (fun x0 gx0 x1 gx1 hp ρ g => sX_acmp x0 gx0 x1 gx1 ρ g)
def sM_acm1 (key : Nat) : Sm := ⟨14, key, [.agg kSpan, .agg kSpan], [.one (.int .i64)], false⟩
def sV_acm1 (a : Span) (b : Span) : List Dt := [.z (aC1 a b)]
def sF_acm1 : List Dt → List Dt
  | [.z x0, .z x1, .z x2, .z x3, .z x4, .z x5, .z x6, .z x7] => sV_acm1 ⟨x0, x1, x2, (x3 == 1)⟩ ⟨x4, x5, x6, (x7 == 1)⟩
  | _ => []
def sT_acm1 : Tr :=
(.call 0 [.int .i64] (.cons (.var 1) (.cons (.var 5) .nil)) 8
(.call 0 [.int .i64] (.cons (.var 0) (.cons (.var 4) .nil)) 9
(.br (.eq (.var 8) (.lit 0))
(.br (.eq (.var 9) (.lit 0))
(.leaf (.cons (.lit 0) .nil))
(.leaf (.cons (.var 9) .nil)))
(.leaf (.cons (.var 8) .nil)))))
def sP_acm1 : Spec := ⟨fun k => match k with | 0 => sF_acmp | _ => fun _ => [], fun k => match k with | _ => fun _ => True⟩
set_option maxRecDepth 100000 in
theorem sR_acm1 : treeIs tys_AlE [sM_acmp 0] [(15, Try.f15, [], [])] [] [] 200 Try.f14 [.agg kSpan, .agg kSpan] [.one (.int .i64)] false [.int .i64, .int .i64, .int .i64, .bool, .int .i64, .int .i64, .int .i64, .bool] sT_acm1 := ⟨by kernel_rfl, by kernel_rfl, by kernel_rfl⟩
set_option maxRecDepth 100000 in
set_option maxHeartbeats 8000000 in
theorem sX_acm1 (a : Span) (ha : Span.ok a) (b : Span) (hb : Span.ok b) (ρ : Env) (g : varsD ρ 0 [.int .i64, .int .i64, .int .i64, .bool, .int .i64, .int .i64, .int .i64, .bool] = [.z a.reg, .z a.fr, .z a.to, .z (b2i a.ov), .z b.reg, .z b.fr, .z b.to, .z (b2i b.ov)]) : sT_acm1.asks sP_acm1 (fun ρ e => e.D ρ = sF_acm1 [.z a.reg, .z a.fr, .z a.to, .z (b2i a.ov), .z b.reg, .z b.fr, .z b.to, .z (b2i b.ov)]) ρ fun _ _ => False := by
  simp only [varsD, varD, List.cons.injEq, Dt.z.injEq, Dt.l.injEq, b2i_eq_iff, Nat.reduceAdd, and_true] at g
  simp only [sT_acm1, sP_acm1, sF_acmp, sV_acmp, sF_acm1, sV_acm1, Tr.asks, upd_same, okDs, okD, eqs, E.I, E.B, E.L, E.R, E.D, E.vs, dI, dB, dL, varD, varsD, List.getElem?_cons_zero, List.getElem?_cons_succ, List.cons_append, List.nil_append, Nat.zero_add, Nat.add_zero, Nat.reduceAdd, and_true, true_and, b2i_one, -eq_self, Span.eta, Place.eta, P11.eta, spanAt_mk, spR_mk, g]
  intro e; (try simp only [e, Span.eta, Place.eta, P11.eta, spanAt_mk, spR_mk, -eq_self]); clear e
  intro e; (try simp only [e, Span.eta, Place.eta, P11.eta, spanAt_mk, spR_mk, -eq_self]); clear e
  refine ⟨fun c0 => ?_, fun c0 => ?_⟩
  refine ⟨fun c1 => ?_, fun c1 => ?_⟩
  · rw [aC1_eq (eqI c0), eqI c1]; try rfl
  · rw [aC1_eq (eqI c0)]; try rfl
  · rw [aC1_ne (neI c0)]; try rfl
theorem sK_acm1 {sp : Spec} {key : Nat} (hF : sp.F key = sF_acm1) (hP : sp.pre key = fun _ => True := by rfl) : SmOk Try.prog sp (sM_acm1 key) :=
  fun_ok (s := sM_acm1 key) hF hP (by kernel_rfl) tysok_AlE (smc (sK_acmp rfl) sm0) Try.func14 (fnc Try.func15 fn0) sR_acm1 (.inl rfl) (fun x0 gx0 x1 gx1 x2 gx2 x3 x4 gx4 x5 gx5 x6 gx6 x7 hp ρ g => sX_acm1 ⟨x0, x1, x2, x3⟩ ⟨gx0, gx1, gx2⟩ ⟨x4, x5, x6, x7⟩ ⟨gx4, gx5, gx6⟩ ρ g)
def sM_acm2 (key : Nat) : Sm := ⟨20, key, [.agg kSpan, .agg kSpan], [.one (.int .i64)], false⟩
def sV_acm2 (a : Span) (b : Span) : List Dt := [.z (aC2 a b)]
def sF_acm2 : List Dt → List Dt
  | [.z x0, .z x1, .z x2, .z x3, .z x4, .z x5, .z x6, .z x7] => sV_acm2 ⟨x0, x1, x2, (x3 == 1)⟩ ⟨x4, x5, x6, (x7 == 1)⟩
  | _ => []
def sT_acm2 : Tr :=
(.call 0 [.int .i64] (.cons (.var 2) (.cons (.var 6) .nil)) 8
(.call 0 [.int .i64] (.cons (.var 0) (.cons (.var 4) .nil)) 9
(.br (.eq (.var 8) (.lit 0))
(.br (.eq (.var 9) (.lit 0))
(.leaf (.cons (.lit 0) .nil))
(.leaf (.cons (.var 9) .nil)))
(.leaf (.cons (.var 8) .nil)))))
def sP_acm2 : Spec := ⟨fun k => match k with | 0 => sF_acmp | _ => fun _ => [], fun k => match k with | _ => fun _ => True⟩
set_option maxRecDepth 100000 in
theorem sR_acm2 : treeIs tys_AlE [sM_acmp 0] [(15, Try.f15, [], [])] [] [] 200 Try.f20 [.agg kSpan, .agg kSpan] [.one (.int .i64)] false [.int .i64, .int .i64, .int .i64, .bool, .int .i64, .int .i64, .int .i64, .bool] sT_acm2 := ⟨by kernel_rfl, by kernel_rfl, by kernel_rfl⟩
set_option maxRecDepth 100000 in
set_option maxHeartbeats 8000000 in
theorem sX_acm2 (a : Span) (ha : Span.ok a) (b : Span) (hb : Span.ok b) (ρ : Env) (g : varsD ρ 0 [.int .i64, .int .i64, .int .i64, .bool, .int .i64, .int .i64, .int .i64, .bool] = [.z a.reg, .z a.fr, .z a.to, .z (b2i a.ov), .z b.reg, .z b.fr, .z b.to, .z (b2i b.ov)]) : sT_acm2.asks sP_acm2 (fun ρ e => e.D ρ = sF_acm2 [.z a.reg, .z a.fr, .z a.to, .z (b2i a.ov), .z b.reg, .z b.fr, .z b.to, .z (b2i b.ov)]) ρ fun _ _ => False := by
  simp only [varsD, varD, List.cons.injEq, Dt.z.injEq, Dt.l.injEq, b2i_eq_iff, Nat.reduceAdd, and_true] at g
  simp only [sT_acm2, sP_acm2, sF_acmp, sV_acmp, sF_acm2, sV_acm2, Tr.asks, upd_same, okDs, okD, eqs, E.I, E.B, E.L, E.R, E.D, E.vs, dI, dB, dL, varD, varsD, List.getElem?_cons_zero, List.getElem?_cons_succ, List.cons_append, List.nil_append, Nat.zero_add, Nat.add_zero, Nat.reduceAdd, and_true, true_and, b2i_one, -eq_self, Span.eta, Place.eta, P11.eta, spanAt_mk, spR_mk, g]
  intro e; (try simp only [e, Span.eta, Place.eta, P11.eta, spanAt_mk, spR_mk, -eq_self]); clear e
  intro e; (try simp only [e, Span.eta, Place.eta, P11.eta, spanAt_mk, spR_mk, -eq_self]); clear e
  refine ⟨fun c0 => ?_, fun c0 => ?_⟩
  refine ⟨fun c1 => ?_, fun c1 => ?_⟩
  · rw [aC2_eq (eqI c0), eqI c1]; try rfl
  · rw [aC2_eq (eqI c0)]; try rfl
  · rw [aC2_ne (neI c0)]; try rfl
theorem sK_acm2 {sp : Spec} {key : Nat} (hF : sp.F key = sF_acm2) (hP : sp.pre key = fun _ => True := by rfl) : SmOk Try.prog sp (sM_acm2 key) :=
  fun_ok (s := sM_acm2 key) hF hP (by kernel_rfl) tysok_AlE (smc (sK_acmp rfl) sm0) Try.func20 (fnc Try.func15 fn0) sR_acm2 (.inl rfl) (fun x0 gx0 x1 gx1 x2 gx2 x3 x4 gx4 x5 gx5 x6 gx6 x7 hp ρ g => sX_acm2 ⟨x0, x1, x2, x3⟩ ⟨gx0, gx1, gx2⟩ ⟨x4, x5, x6, x7⟩ ⟨gx4, gx5, gx6⟩ ρ g)
def sM_blen (key : Nat) : Sm := ⟨36, key, [.one (.int .u64)], [.one (.int .i64)], false⟩
def sV_blen (x : Int) : List Dt := [.z ((blenN x.toNat : Int))]
def sF_blen : List Dt → List Dt
  | [.z x0] => sV_blen x0
  | _ => []
theorem sX_blen (x : Int) (hx : inK .u64 x = true) : (∀ w, Calls Try.prog 36 #[.int .u64 x] w fun e w' => e = .returned (.int .i64 ((blenN x.toNat : Int))) ∧ Ext w w') ∧ valIn (.int .i64 ((blenN x.toNat : Int))) = true := by
  have g := inK_u64 hx
  have hb : blenN x.toNat ≤ 64 := blen_le (by omega)
  have h : inK .i64 (blenN x.toNat : Int) = true := i64_inK (by omega)
  exact ⟨fun w => b_len x g.1 g.2 w w (Ext.refl w), h⟩
theorem sK_blen {sp : Spec} {key : Nat} (hF : sp.F key = sF_blen) : SmOk Try.prog sp (sM_blen key) := by
  refine SmOk.pure hF rfl rfl fun xs vals w h => ?_
  obtain ⟨_, _, _, rfl, ⟨x0, rfl, rfl, gx0⟩, h⟩ := h
  obtain ⟨rfl, rfl⟩ := h
  have q := sX_blen x0 gx0
  refine ⟨_, .inr ⟨run_enter Try.func36 (by kernel_rfl) (by kernel_rfl) _ w, q.1 w⟩, ?_, fun ρ v0 nid j he => ?_⟩
  · have q2 := q.2
    simp [valIn, partIn, cellIn] at q2
    simp [sM_blen, sF_blen, sV_blen, List.flatMap_cons, List.flatMap_nil, Sh.cks, List.append_nil, List.cons_append, List.nil_append, b2i_one, resIn, q2]
  · simp only [sM_blen, sF_blen, sV_blen, List.flatMap_cons, List.flatMap_nil, Sh.cks, List.append_nil, List.cons_append, List.nil_append, b2i_one, eqs, dI, dB, List.getElem?_cons_zero, List.getElem?_cons_succ, Nat.zero_add, Nat.add_zero, Nat.reduceAdd, and_true] at he
    simp [sM_blen, sF_blen, sV_blen, List.flatMap_cons, List.flatMap_nil, Sh.cks, List.append_nil, List.cons_append, List.nil_append, b2i_one, resVof, resParts, resCells, V.den, C.den, denL, den0, den0L, E.I, E.B, he]
end Go.Proofs.Ytoaffiooliclgaa
