/- Contracts of May, Spills and Check. -/
import Derived.Test.YtoaffiooliclgaaAlH
import Derived.Test.YtoaffiooliclgaaProg
import Derived.Laws.Externs
set_option linter.unusedVariables false
set_option linter.unusedSimpArgs false
namespace Go.Proofs.Ytoaffiooliclgaa
open Go.RowKit Go.ChangeShapes Go.WideShapes

def tys_AlJ : List (Nat × TI) := [(3, ⟨false, 1, [.int .i64 (.lit 0)], [], none, some .i64, false, false, none, 8, false, none, false, 0⟩),
 (4, ⟨false, 1, [.bool (.tt false)], [], none, none, false, true, none, 1, false, none, false, 0⟩),
 (22, ⟨false, 1, [.nsl], [], none, none, false, false, some 25, 24, false, none, false, 0⟩),
 (25, ⟨true, 4, [.int .i64 (.lit 0), .int .i64 (.lit 0), .int .i64 (.lit 0), .bool (.tt false)], [(0, 3), (1, 3), (2, 3), (3, 4)], none, none, false, false, none, 32, false, none, false, 0⟩),
 (26, ⟨false, 1, [.int .i8 (.lit 0)], [], none, some .i8, false, false, none, 1, false, none, false, 0⟩),
 (28, ⟨true, 2, [.int .i8 (.lit 0), .int .i8 (.lit 0)], [(0, 26), (1, 26)], none, none, true, false, none, 2, false, none, true, 0⟩),
 (29, ⟨true, 22, [.int .i8 (.lit 0), .int .i8 (.lit 0), .int .i8 (.lit 0), .int .i8 (.lit 0), .int .i8 (.lit 0), .int .i8 (.lit 0), .int .i8 (.lit 0), .int .i8 (.lit 0), .int .i8 (.lit 0), .int .i8 (.lit 0), .int .i8 (.lit 0), .int .i8 (.lit 0), .int .i8 (.lit 0), .int .i8 (.lit 0), .int .i8 (.lit 0), .int .i8 (.lit 0), .int .i8 (.lit 0), .int .i8 (.lit 0), .int .i8 (.lit 0), .int .i8 (.lit 0), .int .i8 (.lit 0), .int .i8 (.lit 0)], [], some (11, 28), none, false, false, none, 22, false, none, false, 0⟩)]
set_option maxRecDepth 100000 in
theorem tysck_AlJ : (tys_AlJ.all fun p => ckTI Try.prog p.1 p.2) = true := by kernel_rfl
theorem tyseq_AlJ : (tys_AlJ.all fun p => !p.2.eqok || ((Nat.beq p.1 28 && kindsC p.2.zero z_Place))) = true := by kernel_rfl
theorem tyskn_AlJ : (tys_AlJ.all fun p => !p.2.keyok || ((Nat.beq p.1 28 && kindsC p.2.zero z_Place))) = true := by kernel_rfl
theorem tysok_AlJ : ∀ t i, (t, i) ∈ tys_AlJ → TIok Try.prog t i := by
  intro t i h
  refine TIok_of (all_at (f := ckTI Try.prog) tysck_AlJ h) (fun he => ?_) (fun he => ?_) (fun he => ?_)
  · have h1 := List.all_eq_true.1 tyseq_AlJ (t, i) h
    simp only [he, Bool.not_true, Bool.false_or, Bool.or_eq_true, Bool.and_eq_true] at h1
    have hs := h1.2
    obtain rfl := Nat.eq_of_beq_eq_true h1.1
    exact fun vs us hv hu => eq_Place vs us (kindsV_of hs hv) (kindsV_of hs hu)
  · have h1 := List.all_eq_true.1 tyseq_AlJ (t, i) h
    simp only [he, Bool.not_true, Bool.false_or, Bool.or_eq_true, Bool.and_eq_true] at h1
    have hs := h1.2
    obtain rfl := Nat.eq_of_beq_eq_true h1.1
    exact grd_Place
  · have h1 := List.all_eq_true.1 tyskn_AlJ (t, i) h
    simp only [he, Bool.not_true, Bool.false_or, Bool.or_eq_true, Bool.and_eq_true] at h1
    have hs := h1.2
    obtain rfl := Nat.eq_of_beq_eq_true h1.1
    exact fun vs hv => key_Place vs (kindsV_of hs hv)
def sM_amay0 (key : Nat) : Sm := ⟨21, key, [.agg kPlace, .one .bool], [.one .bool], false⟩
def sV_amay0 (p : Place) (o : Bool) : List Dt := [.z (b2i (aMay1 p.kd p.n o))]
def sF_amay0 : List Dt → List Dt
  | [.z x0, .z x1, .z x2] => sV_amay0 ⟨x0, x1⟩ (x2 == 1)
  | _ => []
theorem sX_amay0 (p : Place) (hp : Place.ok p) (o : Bool) : (∀ w, Calls Try.prog 21 #[.agg #[.int .i8 p.kd, .int .i8 p.n], .bool o] w fun e w' => e = .returned (.bool (aMay1 p.kd p.n o)) ∧ Ext w w') ∧ valIn (.bool (aMay1 p.kd p.n o)) = true := by
  exact ⟨fun w => may_any p.kd p.n hp.2 o w, rfl⟩
theorem sK_amay0 {sp : Spec} {key : Nat} (hF : sp.F key = sF_amay0) : SmOk Try.prog sp (sM_amay0 key) := by
  refine SmOk.pure hF rfl rfl fun xs vals w h => ?_
  obtain ⟨_, _, _, rfl, p, h⟩ := h
  obtain ⟨_, _, _, rfl, ⟨x0, rfl, rfl, gx0⟩, p⟩ := p
  obtain ⟨_, _, _, rfl, ⟨x1, rfl, rfl, gx1⟩, p⟩ := p
  obtain ⟨rfl, rfl⟩ := p
  obtain ⟨_, _, _, rfl, ⟨x2, rfl, rfl⟩, h⟩ := h
  obtain ⟨rfl, rfl⟩ := h
  have q := sX_amay0 ⟨x0, x1⟩ ⟨gx0, gx1⟩ x2
  refine ⟨_, .inr ⟨run_enter Try.func21 (by kernel_rfl) (by kernel_rfl) _ w, q.1 w⟩, ?_, fun ρ v0 nid j he => ?_⟩
  · have q2 := q.2
    simp [valIn, partIn, cellIn] at q2
    simp [sM_amay0, sF_amay0, sV_amay0, kPlace, List.flatMap_cons, List.flatMap_nil, Sh.cks, List.append_nil, List.cons_append, List.nil_append, b2i_one, resIn, q2]
  · simp only [sM_amay0, sF_amay0, sV_amay0, kPlace, List.flatMap_cons, List.flatMap_nil, Sh.cks, List.append_nil, List.cons_append, List.nil_append, b2i_one, eqs, dI, dB, List.getElem?_cons_zero, List.getElem?_cons_succ, Nat.zero_add, Nat.add_zero, Nat.reduceAdd, and_true] at he
    simp [sM_amay0, sF_amay0, sV_amay0, kPlace, List.flatMap_cons, List.flatMap_nil, Sh.cks, List.append_nil, List.cons_append, List.nil_append, b2i_one, resVof, resParts, resCells, V.den, C.den, denL, den0, den0L, E.I, E.B, he]
def sM_amay (key : Nat) : Sm := ⟨10, key, [.agg kP11], [.one .bool], false⟩
def sV_amay (p : P11) : List Dt := [.z (b2i (aMayA p))]
def sF_amay : List Dt → List Dt
  | [.z x0, .z x1, .z x2, .z x3, .z x4, .z x5, .z x6, .z x7, .z x8, .z x9, .z x10, .z x11, .z x12, .z x13, .z x14, .z x15, .z x16, .z x17, .z x18, .z x19, .z x20, .z x21] => sV_amay ⟨x0, x1, x2, x3, x4, x5, x6, x7, x8, x9, x10, x11, x12, x13, x14, x15, x16, x17, x18, x19, x20, x21⟩
  | _ => []
def sT_amay : Tr :=
(.loop 0 22 [.int .i64] (.cons (.lit 0) .nil)
(.br (.lt (.var 22) (.lit 11))
(.br (.lt (.var 22) (.lit 0))
.panic
(.br (.eq (.nth (.var 22) (.cons (.var 0) (.cons (.var 2) (.cons (.var 4) (.cons (.var 6) (.cons (.var 8) (.cons (.var 10) (.cons (.var 12) (.cons (.var 14) (.cons (.var 16) (.cons (.var 18) (.cons (.var 20) .nil)))))))))))) (.lit 0))
(.br (.eq (.nth (.var 22) (.cons (.var 1) (.cons (.var 3) (.cons (.var 5) (.cons (.var 7) (.cons (.var 9) (.cons (.var 11) (.cons (.var 13) (.cons (.var 15) (.cons (.var 17) (.cons (.var 19) (.cons (.var 21) .nil)))))))))))) (.lit 0))
(.next 0 (.cons (.bin .add .i64 (.var 22) (.lit 1)) .nil))
(.call 0 [.bool] (.cons (.nth (.var 22) (.cons (.var 0) (.cons (.var 2) (.cons (.var 4) (.cons (.var 6) (.cons (.var 8) (.cons (.var 10) (.cons (.var 12) (.cons (.var 14) (.cons (.var 16) (.cons (.var 18) (.cons (.var 20) .nil)))))))))))) (.cons (.nth (.var 22) (.cons (.var 1) (.cons (.var 3) (.cons (.var 5) (.cons (.var 7) (.cons (.var 9) (.cons (.var 11) (.cons (.var 13) (.cons (.var 15) (.cons (.var 17) (.cons (.var 19) (.cons (.var 21) .nil)))))))))))) (.consb (.tt false) .nil))) 23
(.br (.bvar 23)
(.next 0 (.cons (.bin .add .i64 (.var 22) (.lit 1)) .nil))
(.br (.eq (.nth (.var 22) (.cons (.var 0) (.cons (.var 2) (.cons (.var 4) (.cons (.var 6) (.cons (.var 8) (.cons (.var 10) (.cons (.var 12) (.cons (.var 14) (.cons (.var 16) (.cons (.var 18) (.cons (.var 20) .nil)))))))))))) (.lit 2))
(.br (.lt (.nth (.var 22) (.cons (.var 1) (.cons (.var 3) (.cons (.var 5) (.cons (.var 7) (.cons (.var 9) (.cons (.var 11) (.cons (.var 13) (.cons (.var 15) (.cons (.var 17) (.cons (.var 19) (.cons (.var 21) .nil)))))))))))) (.lit 0))
(.leaf (.consb (.tt false) .nil))
(.br (.lt (.nth (.var 22) (.cons (.var 1) (.cons (.var 3) (.cons (.var 5) (.cons (.var 7) (.cons (.var 9) (.cons (.var 11) (.cons (.var 13) (.cons (.var 15) (.cons (.var 17) (.cons (.var 19) (.cons (.var 21) .nil)))))))))))) (.lit 11))
(.next 0 (.cons (.bin .add .i64 (.var 22) (.lit 1)) .nil))
(.leaf (.consb (.tt false) .nil))))
(.leaf (.consb (.tt false) .nil))))))
(.call 0 [.bool] (.cons (.nth (.var 22) (.cons (.var 0) (.cons (.var 2) (.cons (.var 4) (.cons (.var 6) (.cons (.var 8) (.cons (.var 10) (.cons (.var 12) (.cons (.var 14) (.cons (.var 16) (.cons (.var 18) (.cons (.var 20) .nil)))))))))))) (.cons (.nth (.var 22) (.cons (.var 1) (.cons (.var 3) (.cons (.var 5) (.cons (.var 7) (.cons (.var 9) (.cons (.var 11) (.cons (.var 13) (.cons (.var 15) (.cons (.var 17) (.cons (.var 19) (.cons (.var 21) .nil)))))))))))) (.consb (.tt false) .nil))) 23
(.br (.bvar 23)
(.next 0 (.cons (.bin .add .i64 (.var 22) (.lit 1)) .nil))
(.br (.eq (.nth (.var 22) (.cons (.var 0) (.cons (.var 2) (.cons (.var 4) (.cons (.var 6) (.cons (.var 8) (.cons (.var 10) (.cons (.var 12) (.cons (.var 14) (.cons (.var 16) (.cons (.var 18) (.cons (.var 20) .nil)))))))))))) (.lit 2))
(.br (.lt (.nth (.var 22) (.cons (.var 1) (.cons (.var 3) (.cons (.var 5) (.cons (.var 7) (.cons (.var 9) (.cons (.var 11) (.cons (.var 13) (.cons (.var 15) (.cons (.var 17) (.cons (.var 19) (.cons (.var 21) .nil)))))))))))) (.lit 0))
(.leaf (.consb (.tt false) .nil))
(.br (.lt (.nth (.var 22) (.cons (.var 1) (.cons (.var 3) (.cons (.var 5) (.cons (.var 7) (.cons (.var 9) (.cons (.var 11) (.cons (.var 13) (.cons (.var 15) (.cons (.var 17) (.cons (.var 19) (.cons (.var 21) .nil)))))))))))) (.lit 11))
(.next 0 (.cons (.bin .add .i64 (.var 22) (.lit 1)) .nil))
(.leaf (.consb (.tt false) .nil))))
(.leaf (.consb (.tt false) .nil)))))))
(.leaf (.consb (.tt true) .nil))))
def sP_amay : Spec := ⟨fun k => match k with | 0 => sF_amay0 | _ => fun _ => [], fun k => match k with | _ => fun _ => True⟩
set_option maxRecDepth 100000 in
theorem sR_amay : treeIs tys_AlJ [sM_amay0 0] [] [(2, [.tmpI 6 .i64, .top 7, .top 8, .top 4, .top 9, .top 10, .top 11, .top 12, .top 13, .top 14, .top 15, .top 16, .top 17, .top 18, .top 19, .top 20, .top 21, .top 22, .top 23, .top 24, .top 25, .top 26, .top 27, .top 28, .top 29, .top 30, .top 31, .top 32, .top 2, .top 33]), (999999, [])] [] 200 Try.f10 [.agg kP11] [.one .bool] false [.int .i8, .int .i8, .int .i8, .int .i8, .int .i8, .int .i8, .int .i8, .int .i8, .int .i8, .int .i8, .int .i8, .int .i8, .int .i8, .int .i8, .int .i8, .int .i8, .int .i8, .int .i8, .int .i8, .int .i8, .int .i8, .int .i8] sT_amay := ⟨by kernel_rfl, by kernel_rfl, by kernel_rfl⟩
set_option maxRecDepth 100000 in
set_option maxHeartbeats 8000000 in
theorem sX_amay (p : P11) (hp : P11.ok p) (ρ : Env) (g : varsD ρ 0 [.int .i8, .int .i8, .int .i8, .int .i8, .int .i8, .int .i8, .int .i8, .int .i8, .int .i8, .int .i8, .int .i8, .int .i8, .int .i8, .int .i8, .int .i8, .int .i8, .int .i8, .int .i8, .int .i8, .int .i8, .int .i8, .int .i8] = [.z p.k0, .z p.n0, .z p.k1, .z p.n1, .z p.k2, .z p.n2, .z p.k3, .z p.n3, .z p.k4, .z p.n4, .z p.k5, .z p.n5, .z p.k6, .z p.n6, .z p.k7, .z p.n7, .z p.k8, .z p.n8, .z p.k9, .z p.n9, .z p.k10, .z p.n10]) : sT_amay.asks sP_amay (fun ρ e => e.D ρ = sF_amay [.z p.k0, .z p.n0, .z p.k1, .z p.n1, .z p.k2, .z p.n2, .z p.k3, .z p.n3, .z p.k4, .z p.n4, .z p.k5, .z p.n5, .z p.k6, .z p.n6, .z p.k7, .z p.n7, .z p.k8, .z p.n8, .z p.k9, .z p.n9, .z p.k10, .z p.n10]) ρ fun _ _ => False := by
  have keepg := g
  simp only [varsD, varD, List.cons.injEq, Dt.z.injEq, Dt.l.injEq, b2i_eq_iff, Nat.reduceAdd, and_true] at g
  simp only [sT_amay, sP_amay, sF_amay0, sV_amay0, sF_amay, sV_amay, Tr.asks, upd_same, okDs, okD, eqs, E.I, E.B, E.L, E.R, E.D, E.vs, dI, dB, dL, varD, varsD, List.getElem?_cons_zero, List.getElem?_cons_succ, List.cons_append, List.nil_append, Nat.zero_add, Nat.add_zero, Nat.reduceAdd, and_true, true_and, b2i_one, -eq_self, Span.eta, Place.eta, P11.eta, spanAt_mk, spR_mk, kf_mk, nf_mk, g]
  obtain ⟨k0_i0, k0_i1, k0_i2, k0_i3, k0_i4, k0_i5, k0_i6, k0_i7, k0_i8, k0_i9, k0_i10, k0_i11, k0_i12, k0_i13, k0_i14, k0_i15, k0_i16, k0_i17, k0_i18, k0_i19, k0_i20, k0_i21⟩ := g
  refine ⟨fun ds => ∃ i : Nat, ds = [.z (i : Int)] ∧ i ≤ 11 ∧ ∀ m, m < i → okPl (kf p m) (nf p m), fun ds => 11 - (dI ds 0).toNat, ⟨0, rfl, Nat.zero_le _, fun m hm => absurd hm (Nat.not_lt_zero _)⟩, ?_⟩
  intro ρ1 ha1 _ hi1
  obtain ⟨i, k1_i22, hi, hu⟩ := hi1
  simp only [List.cons.injEq, Dt.z.injEq, Dt.l.injEq, b2i_eq_iff, and_true] at k1_i22
  have k1_i0 : ρ1.i 0 = _ := (ha1 0 (by decide)).1.symm.trans k0_i0
  have k1_i1 : ρ1.i 1 = _ := (ha1 1 (by decide)).1.symm.trans k0_i1
  have k1_i2 : ρ1.i 2 = _ := (ha1 2 (by decide)).1.symm.trans k0_i2
  have k1_i3 : ρ1.i 3 = _ := (ha1 3 (by decide)).1.symm.trans k0_i3
  have k1_i4 : ρ1.i 4 = _ := (ha1 4 (by decide)).1.symm.trans k0_i4
  have k1_i5 : ρ1.i 5 = _ := (ha1 5 (by decide)).1.symm.trans k0_i5
  have k1_i6 : ρ1.i 6 = _ := (ha1 6 (by decide)).1.symm.trans k0_i6
  have k1_i7 : ρ1.i 7 = _ := (ha1 7 (by decide)).1.symm.trans k0_i7
  have k1_i8 : ρ1.i 8 = _ := (ha1 8 (by decide)).1.symm.trans k0_i8
  have k1_i9 : ρ1.i 9 = _ := (ha1 9 (by decide)).1.symm.trans k0_i9
  have k1_i10 : ρ1.i 10 = _ := (ha1 10 (by decide)).1.symm.trans k0_i10
  have k1_i11 : ρ1.i 11 = _ := (ha1 11 (by decide)).1.symm.trans k0_i11
  have k1_i12 : ρ1.i 12 = _ := (ha1 12 (by decide)).1.symm.trans k0_i12
  have k1_i13 : ρ1.i 13 = _ := (ha1 13 (by decide)).1.symm.trans k0_i13
  have k1_i14 : ρ1.i 14 = _ := (ha1 14 (by decide)).1.symm.trans k0_i14
  have k1_i15 : ρ1.i 15 = _ := (ha1 15 (by decide)).1.symm.trans k0_i15
  have k1_i16 : ρ1.i 16 = _ := (ha1 16 (by decide)).1.symm.trans k0_i16
  have k1_i17 : ρ1.i 17 = _ := (ha1 17 (by decide)).1.symm.trans k0_i17
  have k1_i18 : ρ1.i 18 = _ := (ha1 18 (by decide)).1.symm.trans k0_i18
  have k1_i19 : ρ1.i 19 = _ := (ha1 19 (by decide)).1.symm.trans k0_i19
  have k1_i20 : ρ1.i 20 = _ := (ha1 20 (by decide)).1.symm.trans k0_i20
  have k1_i21 : ρ1.i 21 = _ := (ha1 21 (by decide)).1.symm.trans k0_i21
  simp only [k1_i0, k1_i1, k1_i2, k1_i3, k1_i4, k1_i5, k1_i6, k1_i7, k1_i8, k1_i9, k1_i10, k1_i11, k1_i12, k1_i13, k1_i14, k1_i15, k1_i16, k1_i17, k1_i18, k1_i19, k1_i20, k1_i21, k1_i22, spanAt_mk, spR_mk, kf_mk, nf_mk, Int.toNat_natCast, -eq_self]
  refine ⟨fun c0 => ?_, fun c0 => ?_⟩
  refine ⟨fun c1 => ?_, fun c1 => ?_⟩
  · exact absurd (of_decide_eq_true c1) (by omega)
  refine ⟨fun c2 => ?_, fun c2 => ?_⟩
  refine ⟨fun c3 => ?_, fun c3 => ?_⟩
  · rw [addN (show i < 11 by have h := of_decide_eq_true c0; omega) (by decide)]
    exact ⟨⟨i + 1, rfl, (show i < 11 by have h := of_decide_eq_true c0; omega), snoc hu (.inl ⟨eqI c2, eqI c3⟩)⟩, by have hi0 := (show i < 11 by have h := of_decide_eq_true c0; omega); show 11 - (((i + 1 : Nat) : Int)).toNat < 11 - ((i : Int)).toNat; omega⟩
  intro e; (try simp only [e, Span.eta, Place.eta, P11.eta, spanAt_mk, spR_mk, kf_mk, nf_mk, -eq_self]); clear e
  refine ⟨fun c4 => ?_, fun c4 => ?_⟩
  · rw [addN (show i < 11 by have h := of_decide_eq_true c0; omega) (by decide)]
    exact ⟨⟨i + 1, rfl, (show i < 11 by have h := of_decide_eq_true c0; omega), snoc hu (.inr (.inl c4))⟩, by have hi0 := (show i < 11 by have h := of_decide_eq_true c0; omega); show 11 - (((i + 1 : Nat) : Int)).toNat < 11 - ((i : Int)).toNat; omega⟩
  refine ⟨fun c5 => ?_, fun c5 => ?_⟩
  refine ⟨fun c6 => ?_, fun c6 => ?_⟩
  · rw [aMayA_n (show i < 11 by have h := of_decide_eq_true c0; omega) (fun q => by
      rcases q with ⟨q1, q2⟩ | q | ⟨q1, q2, q3⟩
      · exact neI c3 q2
      · exact Bool.noConfusion (q.symm.trans c4)
      · exact absurd (of_decide_eq_true c6) (Int.not_lt.2 q2))]; try rfl
  refine ⟨fun c7 => ?_, fun c7 => ?_⟩
  · rw [addN (show i < 11 by have h := of_decide_eq_true c0; omega) (by decide)]
    exact ⟨⟨i + 1, rfl, (show i < 11 by have h := of_decide_eq_true c0; omega), snoc hu (.inr (.inr ⟨eqI c5, Int.not_lt.1 (of_decide_eq_false c6), of_decide_eq_true c7⟩))⟩, by have hi0 := (show i < 11 by have h := of_decide_eq_true c0; omega); show 11 - (((i + 1 : Nat) : Int)).toNat < 11 - ((i : Int)).toNat; omega⟩
  · rw [aMayA_n (show i < 11 by have h := of_decide_eq_true c0; omega) (fun q => by
      rcases q with ⟨q1, q2⟩ | q | ⟨q1, q2, q3⟩
      · exact neI c3 q2
      · exact Bool.noConfusion (q.symm.trans c4)
      · exact of_decide_eq_false c7 q3)]; try rfl
  · rw [aMayA_n (show i < 11 by have h := of_decide_eq_true c0; omega) (fun q => by
      rcases q with ⟨q1, q2⟩ | q | ⟨q1, q2, q3⟩
      · exact neI c3 q2
      · exact Bool.noConfusion (q.symm.trans c4)
      · exact neI c5 q1)]; try rfl
  intro e; (try simp only [e, Span.eta, Place.eta, P11.eta, spanAt_mk, spR_mk, kf_mk, nf_mk, -eq_self]); clear e
  refine ⟨fun c8 => ?_, fun c8 => ?_⟩
  · rw [addN (show i < 11 by have h := of_decide_eq_true c0; omega) (by decide)]
    exact ⟨⟨i + 1, rfl, (show i < 11 by have h := of_decide_eq_true c0; omega), snoc hu (.inr (.inl c8))⟩, by have hi0 := (show i < 11 by have h := of_decide_eq_true c0; omega); show 11 - (((i + 1 : Nat) : Int)).toNat < 11 - ((i : Int)).toNat; omega⟩
  refine ⟨fun c9 => ?_, fun c9 => ?_⟩
  refine ⟨fun c10 => ?_, fun c10 => ?_⟩
  · rw [aMayA_n (show i < 11 by have h := of_decide_eq_true c0; omega) (fun q => by
      rcases q with ⟨q1, q2⟩ | q | ⟨q1, q2, q3⟩
      · exact neI c2 q1
      · exact Bool.noConfusion (q.symm.trans c8)
      · exact absurd (of_decide_eq_true c10) (Int.not_lt.2 q2))]; try rfl
  refine ⟨fun c11 => ?_, fun c11 => ?_⟩
  · rw [addN (show i < 11 by have h := of_decide_eq_true c0; omega) (by decide)]
    exact ⟨⟨i + 1, rfl, (show i < 11 by have h := of_decide_eq_true c0; omega), snoc hu (.inr (.inr ⟨eqI c9, Int.not_lt.1 (of_decide_eq_false c10), of_decide_eq_true c11⟩))⟩, by have hi0 := (show i < 11 by have h := of_decide_eq_true c0; omega); show 11 - (((i + 1 : Nat) : Int)).toNat < 11 - ((i : Int)).toNat; omega⟩
  · rw [aMayA_n (show i < 11 by have h := of_decide_eq_true c0; omega) (fun q => by
      rcases q with ⟨q1, q2⟩ | q | ⟨q1, q2, q3⟩
      · exact neI c2 q1
      · exact Bool.noConfusion (q.symm.trans c8)
      · exact of_decide_eq_false c11 q3)]; try rfl
  · rw [aMayA_n (show i < 11 by have h := of_decide_eq_true c0; omega) (fun q => by
      rcases q with ⟨q1, q2⟩ | q | ⟨q1, q2, q3⟩
      · exact neI c2 q1
      · exact Bool.noConfusion (q.symm.trans c8)
      · exact neI c9 q1)]; try rfl
  · rw [aMayA_y (fun h => of_decide_eq_false c0 (by omega)) hu]; try rfl
theorem sK_amay {sp : Spec} {key : Nat} (hF : sp.F key = sF_amay) (hP : sp.pre key = fun _ => True := by rfl) : SmOk Try.prog sp (sM_amay key) :=
  fun_ok (s := sM_amay key) hF hP (by kernel_rfl) tysok_AlJ (smc (sK_amay0 rfl) sm0) Try.func10 fn0 sR_amay (.inl rfl) (fun x0 gx0 x1 gx1 x2 gx2 x3 gx3 x4 gx4 x5 gx5 x6 gx6 x7 gx7 x8 gx8 x9 gx9 x10 gx10 x11 gx11 x12 gx12 x13 gx13 x14 gx14 x15 gx15 x16 gx16 x17 gx17 x18 gx18 x19 gx19 x20 gx20 x21 gx21 hp ρ g => sX_amay ⟨x0, x1, x2, x3, x4, x5, x6, x7, x8, x9, x10, x11, x12, x13, x14, x15, x16, x17, x18, x19, x20, x21⟩ ⟨gx0, gx1, gx2, gx3, gx4, gx5, gx6, gx7, gx8, gx9, gx10, gx11, gx12, gx13, gx14, gx15, gx16, gx17, gx18, gx19, gx20, gx21⟩ ρ g)
def sM_aspill (key : Nat) : Sm := ⟨8, key, [.agg kP11], [.one (.int .i64)], false⟩
def sV_aspill (p : P11) : List Dt := [.z (aSpl p)]
def sF_aspill : List Dt → List Dt
  | [.z x0, .z x1, .z x2, .z x3, .z x4, .z x5, .z x6, .z x7, .z x8, .z x9, .z x10, .z x11, .z x12, .z x13, .z x14, .z x15, .z x16, .z x17, .z x18, .z x19, .z x20, .z x21] => sV_aspill ⟨x0, x1, x2, x3, x4, x5, x6, x7, x8, x9, x10, x11, x12, x13, x14, x15, x16, x17, x18, x19, x20, x21⟩
  | _ => []
def sT_aspill : Tr :=
(.loop 0 22 [.int .i64, .int .i64] (.cons (.lit 0) (.cons (.lit 0) .nil))
(.br (.lt (.var 22) (.lit 11))
(.br (.lt (.var 22) (.lit 0))
.panic
(.br (.eq (.nth (.var 22) (.cons (.var 0) (.cons (.var 2) (.cons (.var 4) (.cons (.var 6) (.cons (.var 8) (.cons (.var 10) (.cons (.var 12) (.cons (.var 14) (.cons (.var 16) (.cons (.var 18) (.cons (.var 20) .nil)))))))))))) (.lit 2))
(.next 0 (.cons (.bin .add .i64 (.var 22) (.lit 1)) (.cons (.mx (.var 23) (.bin .add .i64 (.conv .i64 (.nth (.var 22) (.cons (.var 1) (.cons (.var 3) (.cons (.var 5) (.cons (.var 7) (.cons (.var 9) (.cons (.var 11) (.cons (.var 13) (.cons (.var 15) (.cons (.var 17) (.cons (.var 19) (.cons (.var 21) .nil))))))))))))) (.lit 1))) .nil)))
(.next 0 (.cons (.bin .add .i64 (.var 22) (.lit 1)) (.cons (.var 23) .nil)))))
(.leaf (.cons (.var 23) .nil))))
def sP_aspill : Spec := ⟨fun k => match k with | _ => fun _ => [], fun k => match k with | _ => fun _ => True⟩
set_option maxRecDepth 100000 in
theorem sR_aspill : treeIs tys_AlJ [] [] [(3, [.tmpI 7 .i64, .tmpI 3 .i64, .top 8, .top 9, .top 5, .top 10, .top 11, .top 12, .top 13, .top 14, .top 15, .top 16, .top 17, .top 18, .top 19]), (999999, [])] [] 200 Try.f8 [.agg kP11] [.one (.int .i64)] false [.int .i8, .int .i8, .int .i8, .int .i8, .int .i8, .int .i8, .int .i8, .int .i8, .int .i8, .int .i8, .int .i8, .int .i8, .int .i8, .int .i8, .int .i8, .int .i8, .int .i8, .int .i8, .int .i8, .int .i8, .int .i8, .int .i8] sT_aspill := ⟨by kernel_rfl, by kernel_rfl, by kernel_rfl⟩
set_option maxRecDepth 100000 in
set_option maxHeartbeats 8000000 in
theorem sX_aspill (p : P11) (hp : P11.ok p) (ρ : Env) (g : varsD ρ 0 [.int .i8, .int .i8, .int .i8, .int .i8, .int .i8, .int .i8, .int .i8, .int .i8, .int .i8, .int .i8, .int .i8, .int .i8, .int .i8, .int .i8, .int .i8, .int .i8, .int .i8, .int .i8, .int .i8, .int .i8, .int .i8, .int .i8] = [.z p.k0, .z p.n0, .z p.k1, .z p.n1, .z p.k2, .z p.n2, .z p.k3, .z p.n3, .z p.k4, .z p.n4, .z p.k5, .z p.n5, .z p.k6, .z p.n6, .z p.k7, .z p.n7, .z p.k8, .z p.n8, .z p.k9, .z p.n9, .z p.k10, .z p.n10]) : sT_aspill.asks sP_aspill (fun ρ e => e.D ρ = sF_aspill [.z p.k0, .z p.n0, .z p.k1, .z p.n1, .z p.k2, .z p.n2, .z p.k3, .z p.n3, .z p.k4, .z p.n4, .z p.k5, .z p.n5, .z p.k6, .z p.n6, .z p.k7, .z p.n7, .z p.k8, .z p.n8, .z p.k9, .z p.n9, .z p.k10, .z p.n10]) ρ fun _ _ => False := by
  have keepg := g
  simp only [varsD, varD, List.cons.injEq, Dt.z.injEq, Dt.l.injEq, b2i_eq_iff, Nat.reduceAdd, and_true] at g
  simp only [sT_aspill, sP_aspill, sF_aspill, sV_aspill, Tr.asks, upd_same, okDs, okD, eqs, E.I, E.B, E.L, E.R, E.D, E.vs, dI, dB, dL, varD, varsD, List.getElem?_cons_zero, List.getElem?_cons_succ, List.cons_append, List.nil_append, Nat.zero_add, Nat.add_zero, Nat.reduceAdd, and_true, true_and, b2i_one, -eq_self, Span.eta, Place.eta, P11.eta, spanAt_mk, spR_mk, kf_mk, nf_mk, g]
  obtain ⟨k0_i0, k0_i1, k0_i2, k0_i3, k0_i4, k0_i5, k0_i6, k0_i7, k0_i8, k0_i9, k0_i10, k0_i11, k0_i12, k0_i13, k0_i14, k0_i15, k0_i16, k0_i17, k0_i18, k0_i19, k0_i20, k0_i21⟩ := g
  refine ⟨fun ds => ∃ i : Nat, ds = [.z (i : Int), .z (splN (kf p) (nf p) i)] ∧ i ≤ 11, fun ds => 11 - (dI ds 0).toNat, ⟨0, rfl, Nat.zero_le _⟩, ?_⟩
  intro ρ1 ha1 _ hi1
  obtain ⟨i, hds, hi⟩ := hi1
  simp only [List.cons.injEq, Dt.z.injEq, Dt.l.injEq, b2i_eq_iff, and_true] at hds
  obtain ⟨k1_i22, k1_i23⟩ := hds
  have k1_i0 : ρ1.i 0 = _ := (ha1 0 (by decide)).1.symm.trans k0_i0
  have k1_i1 : ρ1.i 1 = _ := (ha1 1 (by decide)).1.symm.trans k0_i1
  have k1_i2 : ρ1.i 2 = _ := (ha1 2 (by decide)).1.symm.trans k0_i2
  have k1_i3 : ρ1.i 3 = _ := (ha1 3 (by decide)).1.symm.trans k0_i3
  have k1_i4 : ρ1.i 4 = _ := (ha1 4 (by decide)).1.symm.trans k0_i4
  have k1_i5 : ρ1.i 5 = _ := (ha1 5 (by decide)).1.symm.trans k0_i5
  have k1_i6 : ρ1.i 6 = _ := (ha1 6 (by decide)).1.symm.trans k0_i6
  have k1_i7 : ρ1.i 7 = _ := (ha1 7 (by decide)).1.symm.trans k0_i7
  have k1_i8 : ρ1.i 8 = _ := (ha1 8 (by decide)).1.symm.trans k0_i8
  have k1_i9 : ρ1.i 9 = _ := (ha1 9 (by decide)).1.symm.trans k0_i9
  have k1_i10 : ρ1.i 10 = _ := (ha1 10 (by decide)).1.symm.trans k0_i10
  have k1_i11 : ρ1.i 11 = _ := (ha1 11 (by decide)).1.symm.trans k0_i11
  have k1_i12 : ρ1.i 12 = _ := (ha1 12 (by decide)).1.symm.trans k0_i12
  have k1_i13 : ρ1.i 13 = _ := (ha1 13 (by decide)).1.symm.trans k0_i13
  have k1_i14 : ρ1.i 14 = _ := (ha1 14 (by decide)).1.symm.trans k0_i14
  have k1_i15 : ρ1.i 15 = _ := (ha1 15 (by decide)).1.symm.trans k0_i15
  have k1_i16 : ρ1.i 16 = _ := (ha1 16 (by decide)).1.symm.trans k0_i16
  have k1_i17 : ρ1.i 17 = _ := (ha1 17 (by decide)).1.symm.trans k0_i17
  have k1_i18 : ρ1.i 18 = _ := (ha1 18 (by decide)).1.symm.trans k0_i18
  have k1_i19 : ρ1.i 19 = _ := (ha1 19 (by decide)).1.symm.trans k0_i19
  have k1_i20 : ρ1.i 20 = _ := (ha1 20 (by decide)).1.symm.trans k0_i20
  have k1_i21 : ρ1.i 21 = _ := (ha1 21 (by decide)).1.symm.trans k0_i21
  simp only [k1_i0, k1_i1, k1_i2, k1_i3, k1_i4, k1_i5, k1_i6, k1_i7, k1_i8, k1_i9, k1_i10, k1_i11, k1_i12, k1_i13, k1_i14, k1_i15, k1_i16, k1_i17, k1_i18, k1_i19, k1_i20, k1_i21, k1_i22, k1_i23, spanAt_mk, spR_mk, kf_mk, nf_mk, Int.toNat_natCast, -eq_self]
  refine ⟨fun c0 => ?_, fun c0 => ?_⟩
  refine ⟨fun c1 => ?_, fun c1 => ?_⟩
  · exact absurd (of_decide_eq_true c1) (by omega)
  refine ⟨fun c2 => ?_, fun c2 => ?_⟩
  · rw [addN (show i < 11 by have h := of_decide_eq_true c0; omega) (by decide), spl_conv hp c2]
    exact ⟨⟨i + 1, rfl, (show i < 11 by have h := of_decide_eq_true c0; omega)⟩, by have hi0 := (show i < 11 by have h := of_decide_eq_true c0; omega); show 11 - (((i + 1 : Nat) : Int)).toNat < 11 - ((i : Int)).toNat; omega⟩
  · rw [addN (show i < 11 by have h := of_decide_eq_true c0; omega) (by decide), spl_skip c2]
    exact ⟨⟨i + 1, rfl, (show i < 11 by have h := of_decide_eq_true c0; omega)⟩, by have hi0 := (show i < 11 by have h := of_decide_eq_true c0; omega); show 11 - (((i + 1 : Nat) : Int)).toNat < 11 - ((i : Int)).toNat; omega⟩
  · obtain rfl : i = 11 := by have := of_decide_eq_false c0; omega
    rfl
theorem sK_aspill {sp : Spec} {key : Nat} (hF : sp.F key = sF_aspill) (hP : sp.pre key = fun _ => True := by rfl) : SmOk Try.prog sp (sM_aspill key) :=
  fun_ok (s := sM_aspill key) hF hP (by kernel_rfl) tysok_AlJ (sm0) Try.func8 fn0 sR_aspill (.inl rfl) (fun x0 gx0 x1 gx1 x2 gx2 x3 gx3 x4 gx4 x5 gx5 x6 gx6 x7 gx7 x8 gx8 x9 gx9 x10 gx10 x11 gx11 x12 gx12 x13 gx13 x14 gx14 x15 gx15 x16 gx16 x17 gx17 x18 gx18 x19 gx19 x20 gx20 x21 gx21 hp ρ g => sX_aspill ⟨x0, x1, x2, x3, x4, x5, x6, x7, x8, x9, x10, x11, x12, x13, x14, x15, x16, x17, x18, x19, x20, x21⟩ ⟨gx0, gx1, gx2, gx3, gx4, gx5, gx6, gx7, gx8, gx9, gx10, gx11, gx12, gx13, gx14, gx15, gx16, gx17, gx18, gx19, gx20, gx21⟩ ρ g)
def sM_achk (key : Nat) : Sm := ⟨9, key, [.one (.sl [some .i64, some .i64, some .i64, none] 25), .agg kP11], [.one .bool], false⟩
def sV_achk (l : List (List Int)) (q : P11) : List Dt := [.z (b2i (aChk l q))]
def sF_achk : List Dt → List Dt
  | [.l x0, .z x1, .z x2, .z x3, .z x4, .z x5, .z x6, .z x7, .z x8, .z x9, .z x10, .z x11, .z x12, .z x13, .z x14, .z x15, .z x16, .z x17, .z x18, .z x19, .z x20, .z x21, .z x22] => sV_achk x0 ⟨x1, x2, x3, x4, x5, x6, x7, x8, x9, x10, x11, x12, x13, x14, x15, x16, x17, x18, x19, x20, x21, x22⟩
  | _ => []
set_option maxRecDepth 100000 in
def sT_achk : Tr :=
(.call 0 [.bool] (.consl (.lvar 0) .nil) 23
(.br (.bvar 23)
(.call 1 [.bool] (.vs 1 22 .nil) 24
(.br (.bvar 24)
(.loop 0 25 [.int .i64] (.cons (.lit 0) .nil)
(.br (.lt (.var 25) (.len (.lvar 0)))
(.br (.lt (.var 25) (.lit 0))
.panic
(.br (.lt (.get (.lvar 0) (.var 25) 0) (.lit 0))
.panic
(.br (.lt (.get (.lvar 0) (.var 25) 0) (.lit 11))
(.br (.eq (.nth (.get (.lvar 0) (.var 25) 0) (.cons (.var 1) (.cons (.var 3) (.cons (.var 5) (.cons (.var 7) (.cons (.var 9) (.cons (.var 11) (.cons (.var 13) (.cons (.var 15) (.cons (.var 17) (.cons (.var 19) (.cons (.var 21) .nil)))))))))))) (.lit 0))
(.leaf (.consb (.tt false) .nil))
(.br (.eq (.nth (.get (.lvar 0) (.var 25) 0) (.cons (.var 1) (.cons (.var 3) (.cons (.var 5) (.cons (.var 7) (.cons (.var 9) (.cons (.var 11) (.cons (.var 13) (.cons (.var 15) (.cons (.var 17) (.cons (.var 19) (.cons (.var 21) .nil)))))))))))) (.lit 1))
(.call 2 [.bool] (.cons (.nth (.get (.lvar 0) (.var 25) 0) (.cons (.var 1) (.cons (.var 3) (.cons (.var 5) (.cons (.var 7) (.cons (.var 9) (.cons (.var 11) (.cons (.var 13) (.cons (.var 15) (.cons (.var 17) (.cons (.var 19) (.cons (.var 21) .nil)))))))))))) (.cons (.nth (.get (.lvar 0) (.var 25) 0) (.cons (.var 2) (.cons (.var 4) (.cons (.var 6) (.cons (.var 8) (.cons (.var 10) (.cons (.var 12) (.cons (.var 14) (.cons (.var 16) (.cons (.var 18) (.cons (.var 20) (.cons (.var 22) .nil)))))))))))) (.consb (.getb (.lvar 0) (.var 25) 3) .nil))) 26
(.br (.bvar 26)
(.br (.lt (.len (.lvar 0)) (.var 25))
.panic
(.loop 1 27 [.int .i64] (.cons (.lit 0) .nil)
(.br (.lt (.var 27) (.len (.ltake (.lvar 0) (.var 25))))
(.br (.lt (.var 27) (.lit 0))
.panic
(.br (.lt (.var 27) (.len (.lvar 0)))
(.br (.lt (.get (.lvar 0) (.var 27) 0) (.lit 0))
.panic
(.br (.lt (.get (.lvar 0) (.var 27) 0) (.lit 11))
(.br (.eq (.nth (.get (.lvar 0) (.var 27) 0) (.cons (.var 1) (.cons (.var 3) (.cons (.var 5) (.cons (.var 7) (.cons (.var 9) (.cons (.var 11) (.cons (.var 13) (.cons (.var 15) (.cons (.var 17) (.cons (.var 19) (.cons (.var 21) .nil)))))))))))) (.nth (.get (.lvar 0) (.var 25) 0) (.cons (.var 1) (.cons (.var 3) (.cons (.var 5) (.cons (.var 7) (.cons (.var 9) (.cons (.var 11) (.cons (.var 13) (.cons (.var 15) (.cons (.var 17) (.cons (.var 19) (.cons (.var 21) .nil)))))))))))))
(.br (.eq (.nth (.get (.lvar 0) (.var 27) 0) (.cons (.var 2) (.cons (.var 4) (.cons (.var 6) (.cons (.var 8) (.cons (.var 10) (.cons (.var 12) (.cons (.var 14) (.cons (.var 16) (.cons (.var 18) (.cons (.var 20) (.cons (.var 22) .nil)))))))))))) (.nth (.get (.lvar 0) (.var 25) 0) (.cons (.var 2) (.cons (.var 4) (.cons (.var 6) (.cons (.var 8) (.cons (.var 10) (.cons (.var 12) (.cons (.var 14) (.cons (.var 16) (.cons (.var 18) (.cons (.var 20) (.cons (.var 22) .nil)))))))))))))
(.br (.lt (.get (.lvar 0) (.var 25) 2) (.get (.lvar 0) (.var 27) 1))
(.next 1 (.cons (.bin .add .i64 (.var 27) (.lit 1)) .nil))
(.br (.lt (.get (.lvar 0) (.var 27) 2) (.get (.lvar 0) (.var 25) 1))
(.next 1 (.cons (.bin .add .i64 (.var 27) (.lit 1)) .nil))
(.leaf (.consb (.tt false) .nil))))
(.next 1 (.cons (.bin .add .i64 (.var 27) (.lit 1)) .nil)))
(.next 1 (.cons (.bin .add .i64 (.var 27) (.lit 1)) .nil)))
.panic))
(.stuck 54)))
(.next 0 (.cons (.bin .add .i64 (.var 25) (.lit 1)) .nil)))))
(.leaf (.consb (.tt false) .nil))))
(.br (.lt (.len (.lvar 0)) (.var 25))
.panic
(.loop 1 26 [.int .i64] (.cons (.lit 0) .nil)
(.br (.lt (.var 26) (.len (.ltake (.lvar 0) (.var 25))))
(.br (.lt (.var 26) (.lit 0))
.panic
(.br (.lt (.var 26) (.len (.lvar 0)))
(.br (.lt (.get (.lvar 0) (.var 26) 0) (.lit 0))
.panic
(.br (.lt (.get (.lvar 0) (.var 26) 0) (.lit 11))
(.br (.eq (.nth (.get (.lvar 0) (.var 26) 0) (.cons (.var 1) (.cons (.var 3) (.cons (.var 5) (.cons (.var 7) (.cons (.var 9) (.cons (.var 11) (.cons (.var 13) (.cons (.var 15) (.cons (.var 17) (.cons (.var 19) (.cons (.var 21) .nil)))))))))))) (.nth (.get (.lvar 0) (.var 25) 0) (.cons (.var 1) (.cons (.var 3) (.cons (.var 5) (.cons (.var 7) (.cons (.var 9) (.cons (.var 11) (.cons (.var 13) (.cons (.var 15) (.cons (.var 17) (.cons (.var 19) (.cons (.var 21) .nil)))))))))))))
(.br (.eq (.nth (.get (.lvar 0) (.var 26) 0) (.cons (.var 2) (.cons (.var 4) (.cons (.var 6) (.cons (.var 8) (.cons (.var 10) (.cons (.var 12) (.cons (.var 14) (.cons (.var 16) (.cons (.var 18) (.cons (.var 20) (.cons (.var 22) .nil)))))))))))) (.nth (.get (.lvar 0) (.var 25) 0) (.cons (.var 2) (.cons (.var 4) (.cons (.var 6) (.cons (.var 8) (.cons (.var 10) (.cons (.var 12) (.cons (.var 14) (.cons (.var 16) (.cons (.var 18) (.cons (.var 20) (.cons (.var 22) .nil)))))))))))))
(.br (.lt (.get (.lvar 0) (.var 25) 2) (.get (.lvar 0) (.var 26) 1))
(.next 1 (.cons (.bin .add .i64 (.var 26) (.lit 1)) .nil))
(.br (.lt (.get (.lvar 0) (.var 26) 2) (.get (.lvar 0) (.var 25) 1))
(.next 1 (.cons (.bin .add .i64 (.var 26) (.lit 1)) .nil))
(.leaf (.consb (.tt false) .nil))))
(.next 1 (.cons (.bin .add .i64 (.var 26) (.lit 1)) .nil)))
(.next 1 (.cons (.bin .add .i64 (.var 26) (.lit 1)) .nil)))
.panic))
(.stuck 54)))
(.next 0 (.cons (.bin .add .i64 (.var 25) (.lit 1)) .nil)))))))
.panic)))
(.leaf (.consb (.tt true) .nil))))
(.leaf (.consb (.tt false) .nil))))
(.leaf (.consb (.tt false) .nil))))
def sP_achk : Spec := ⟨fun k => match k with | 0 => sF_aright | 1 => sF_amay | 2 => sF_amay0 | _ => fun _ => [], fun k => match k with | 0 => sQ_aright | _ => fun _ => True⟩
set_option maxRecDepth 100000 in
theorem sR_achk : treeIs tys_AlJ [sM_aright 0, sM_amay 1, sM_amay0 2] [] [(4, [.tmpI 20 .i64, .top 21, .top 22, .top 23, .top 24, .top 6, .top 5, .top 25, .top 26, .top 27, .top 28, .top 7, .top 29, .top 30, .top 31, .top 32, .top 33, .top 34, .top 35, .top 36, .top 37, .top 38, .top 39, .top 40, .top 41, .top 42, .top 43, .top 4, .top 44, .top 45, .top 46, .top 47, .top 48, .top 49, .top 50, .top 51, .top 9, .top 52, .top 53, .top 54, .top 55, .top 56, .top 57, .top 58, .top 59, .top 60, .top 61, .top 62, .top 63, .top 64, .top 65, .top 66, .top 67, .top 68, .top 69, .top 70, .top 71, .top 72, .top 73]), (10, [.tmpI 48 .i64, .top 49, .top 50, .top 51, .top 9, .top 52, .top 53, .top 54, .top 55, .top 56, .top 57, .top 58, .top 59, .top 60, .top 61, .top 62, .top 63, .top 64, .top 65, .top 66, .top 67, .top 68, .top 69, .top 70, .top 71, .top 4, .top 72]), (999999, []), (999998, [])] [] 200 Try.f9 [.one (.sl [some .i64, some .i64, some .i64, none] 25), .agg kP11] [.one .bool] false [.list [some .i64, some .i64, some .i64, none], .int .i8, .int .i8, .int .i8, .int .i8, .int .i8, .int .i8, .int .i8, .int .i8, .int .i8, .int .i8, .int .i8, .int .i8, .int .i8, .int .i8, .int .i8, .int .i8, .int .i8, .int .i8, .int .i8, .int .i8, .int .i8, .int .i8] sT_achk := ⟨by kernel_rfl, by kernel_rfl, by kernel_rfl⟩
def sQ_achk : List Dt → Prop
  | [.l x0, .z x1, .z x2, .z x3, .z x4, .z x5, .z x6, .z x7, .z x8, .z x9, .z x10, .z x11, .z x12, .z x13, .z x14, .z x15, .z x16, .z x17, .z x18, .z x19, .z x20, .z x21, .z x22] => let f (l : List (List Int)) (q : P11) : Prop := l.length ≤ maxLen; f x0 ⟨x1, x2, x3, x4, x5, x6, x7, x8, x9, x10, x11, x12, x13, x14, x15, x16, x17, x18, x19, x20, x21, x22⟩
  | _ => False
set_option maxRecDepth 100000 in
set_option maxHeartbeats 8000000 in
theorem sX_achk (l : List (List Int)) (hl : RowsIn [some .i64, some .i64, some .i64, none] l) (q : P11) (hq : P11.ok q) (hp : sQ_achk [.l l, .z q.k0, .z q.n0, .z q.k1, .z q.n1, .z q.k2, .z q.n2, .z q.k3, .z q.n3, .z q.k4, .z q.n4, .z q.k5, .z q.n5, .z q.k6, .z q.n6, .z q.k7, .z q.n7, .z q.k8, .z q.n8, .z q.k9, .z q.n9, .z q.k10, .z q.n10]) (ρ : Env) (g : varsD ρ 0 [.list [some .i64, some .i64, some .i64, none], .int .i8, .int .i8, .int .i8, .int .i8, .int .i8, .int .i8, .int .i8, .int .i8, .int .i8, .int .i8, .int .i8, .int .i8, .int .i8, .int .i8, .int .i8, .int .i8, .int .i8, .int .i8, .int .i8, .int .i8, .int .i8, .int .i8] = [.l l, .z q.k0, .z q.n0, .z q.k1, .z q.n1, .z q.k2, .z q.n2, .z q.k3, .z q.n3, .z q.k4, .z q.n4, .z q.k5, .z q.n5, .z q.k6, .z q.n6, .z q.k7, .z q.n7, .z q.k8, .z q.n8, .z q.k9, .z q.n9, .z q.k10, .z q.n10]) : sT_achk.asks sP_achk (fun ρ e => e.D ρ = sF_achk [.l l, .z q.k0, .z q.n0, .z q.k1, .z q.n1, .z q.k2, .z q.n2, .z q.k3, .z q.n3, .z q.k4, .z q.n4, .z q.k5, .z q.n5, .z q.k6, .z q.n6, .z q.k7, .z q.n7, .z q.k8, .z q.n8, .z q.k9, .z q.n9, .z q.k10, .z q.n10]) ρ fun _ _ => False := by
  simp only [sQ_achk, b2i_one, Span.eta, Place.eta, P11.eta, spanAt_mk, spR_mk, kf_mk, nf_mk] at hp
  have keepg := g
  simp only [varsD, varD, List.cons.injEq, Dt.z.injEq, Dt.l.injEq, b2i_eq_iff, Nat.reduceAdd, and_true] at g
  simp only [sT_achk, sP_achk, sF_aright, sF_amay, sF_amay0, sV_aright, sV_amay, sV_amay0, sF_achk, sV_achk, sQ_aright, Tr.asks, upd_same, okDs, okD, eqs, E.I, E.B, E.L, E.R, E.D, E.vs, dI, dB, dL, varD, varsD, List.getElem?_cons_zero, List.getElem?_cons_succ, List.cons_append, List.nil_append, Nat.zero_add, Nat.add_zero, Nat.reduceAdd, and_true, true_and, b2i_one, -eq_self, Span.eta, Place.eta, P11.eta, spanAt_mk, spR_mk, kf_mk, nf_mk, g]
  obtain ⟨k0_l0, k0_i1, k0_i2, k0_i3, k0_i4, k0_i5, k0_i6, k0_i7, k0_i8, k0_i9, k0_i10, k0_i11, k0_i12, k0_i13, k0_i14, k0_i15, k0_i16, k0_i17, k0_i18, k0_i19, k0_i20, k0_i21, k0_i22⟩ := g
  refine ⟨?_, ?_⟩
  · exact hp
  intro e; have k0_b23 := e; (try simp only [e, Span.eta, Place.eta, P11.eta, spanAt_mk, spR_mk, kf_mk, nf_mk, -eq_self]); clear e
  refine ⟨fun c0 => ?_, fun c0 => ?_⟩
  intro e; have k0_b24 := e; (try simp only [e, Span.eta, Place.eta, P11.eta, spanAt_mk, spR_mk, kf_mk, nf_mk, -eq_self]); clear e
  refine ⟨fun c1 => ?_, fun c1 => ?_⟩
  refine ⟨fun ds => ∃ i : Nat, ds = [.z (i : Int)] ∧ i ≤ l.length ∧ ∀ m, m < i → okC l q m, fun ds => l.length - (dI ds 0).toNat, ⟨0, rfl, Nat.zero_le _, fun m hm => absurd hm (Nat.not_lt_zero _)⟩, ?_⟩
  intro ρ1 ha1 _ hi1
  obtain ⟨i, k1_i25, hi, hu⟩ := hi1
  simp only [List.cons.injEq, Dt.z.injEq, Dt.l.injEq, b2i_eq_iff, and_true] at k1_i25
  have k1_l0 : ρ1.l 0 = _ := (ha1 0 (by decide)).2.2.symm.trans k0_l0
  have k1_i1 : ρ1.i 1 = _ := (ha1 1 (by decide)).1.symm.trans k0_i1
  have k1_i2 : ρ1.i 2 = _ := (ha1 2 (by decide)).1.symm.trans k0_i2
  have k1_i3 : ρ1.i 3 = _ := (ha1 3 (by decide)).1.symm.trans k0_i3
  have k1_i4 : ρ1.i 4 = _ := (ha1 4 (by decide)).1.symm.trans k0_i4
  have k1_i5 : ρ1.i 5 = _ := (ha1 5 (by decide)).1.symm.trans k0_i5
  have k1_i6 : ρ1.i 6 = _ := (ha1 6 (by decide)).1.symm.trans k0_i6
  have k1_i7 : ρ1.i 7 = _ := (ha1 7 (by decide)).1.symm.trans k0_i7
  have k1_i8 : ρ1.i 8 = _ := (ha1 8 (by decide)).1.symm.trans k0_i8
  have k1_i9 : ρ1.i 9 = _ := (ha1 9 (by decide)).1.symm.trans k0_i9
  have k1_i10 : ρ1.i 10 = _ := (ha1 10 (by decide)).1.symm.trans k0_i10
  have k1_i11 : ρ1.i 11 = _ := (ha1 11 (by decide)).1.symm.trans k0_i11
  have k1_i12 : ρ1.i 12 = _ := (ha1 12 (by decide)).1.symm.trans k0_i12
  have k1_i13 : ρ1.i 13 = _ := (ha1 13 (by decide)).1.symm.trans k0_i13
  have k1_i14 : ρ1.i 14 = _ := (ha1 14 (by decide)).1.symm.trans k0_i14
  have k1_i15 : ρ1.i 15 = _ := (ha1 15 (by decide)).1.symm.trans k0_i15
  have k1_i16 : ρ1.i 16 = _ := (ha1 16 (by decide)).1.symm.trans k0_i16
  have k1_i17 : ρ1.i 17 = _ := (ha1 17 (by decide)).1.symm.trans k0_i17
  have k1_i18 : ρ1.i 18 = _ := (ha1 18 (by decide)).1.symm.trans k0_i18
  have k1_i19 : ρ1.i 19 = _ := (ha1 19 (by decide)).1.symm.trans k0_i19
  have k1_i20 : ρ1.i 20 = _ := (ha1 20 (by decide)).1.symm.trans k0_i20
  have k1_i21 : ρ1.i 21 = _ := (ha1 21 (by decide)).1.symm.trans k0_i21
  have k1_i22 : ρ1.i 22 = _ := (ha1 22 (by decide)).1.symm.trans k0_i22
  have k1_b23 : ρ1.b 23 = _ := (ha1 23 (by decide)).2.1.symm.trans k0_b23
  have k1_b24 : ρ1.b 24 = _ := (ha1 24 (by decide)).2.1.symm.trans k0_b24
  simp only [k1_l0, k1_i1, k1_i2, k1_i3, k1_i4, k1_i5, k1_i6, k1_i7, k1_i8, k1_i9, k1_i10, k1_i11, k1_i12, k1_i13, k1_i14, k1_i15, k1_i16, k1_i17, k1_i18, k1_i19, k1_i20, k1_i21, k1_i22, k1_i25, spanAt_mk, spR_mk, kf_mk, nf_mk, Int.toNat_natCast, -eq_self]
  refine ⟨fun c2 => ?_, fun c2 => ?_⟩
  refine ⟨fun c3 => ?_, fun c3 => ?_⟩
  · have h2 := (Int.ofNat_lt.1 (of_decide_eq_true c2))
    exact absurd (of_decide_eq_true c3) (by omega)
  refine ⟨fun c4 => ?_, fun c4 => ?_⟩
  · have hO := (aR_u c0).ok (getD_mem (Int.ofNat_lt.1 (of_decide_eq_true c2)))
    exact absurd (of_decide_eq_true c4) (Int.not_lt.2 hO.1.1)
  refine ⟨fun c5 => ?_, fun c5 => ?_⟩
  refine ⟨fun c6 => ?_, fun c6 => ?_⟩
  · rw [aChk_n (Int.ofNat_lt.1 (of_decide_eq_true c2)) (fun h => h.1 (.inl (eqI c6)))]; try rfl
  refine ⟨fun c7 => ?_, fun c7 => ?_⟩
  intro e; have k1_b26 := e; (try simp only [e, Span.eta, Place.eta, P11.eta, spanAt_mk, spR_mk, kf_mk, nf_mk, -eq_self]); clear e
  refine ⟨fun c8 => ?_, fun c8 => ?_⟩
  refine ⟨fun c9 => ?_, fun c9 => ?_⟩
  · have h2 := (Int.ofNat_lt.1 (of_decide_eq_true c2))
    exact absurd (of_decide_eq_true c9) (by omega)
  have hi2 := (Int.ofNat_lt.1 (of_decide_eq_true c2))
  refine ⟨fun ds => ∃ j : Nat, ds = [.z (j : Int)] ∧ j ≤ i ∧ ∀ m, m < j → ¬ clash q (l.getD i []) (l.getD m []), fun ds => i - (dI ds 0).toNat, ⟨0, rfl, Nat.zero_le _, fun m hm => absurd hm (Nat.not_lt_zero _)⟩, ?_⟩
  intro ρ2 ha2 _ hi3
  obtain ⟨j, k2_i27, hj, hv⟩ := hi3
  simp only [List.cons.injEq, Dt.z.injEq, Dt.l.injEq, b2i_eq_iff, and_true] at k2_i27
  have k2_l0 : ρ2.l 0 = _ := (ha2 0 (by decide)).2.2.symm.trans k1_l0
  have k2_i1 : ρ2.i 1 = _ := (ha2 1 (by decide)).1.symm.trans k1_i1
  have k2_i2 : ρ2.i 2 = _ := (ha2 2 (by decide)).1.symm.trans k1_i2
  have k2_i3 : ρ2.i 3 = _ := (ha2 3 (by decide)).1.symm.trans k1_i3
  have k2_i4 : ρ2.i 4 = _ := (ha2 4 (by decide)).1.symm.trans k1_i4
  have k2_i5 : ρ2.i 5 = _ := (ha2 5 (by decide)).1.symm.trans k1_i5
  have k2_i6 : ρ2.i 6 = _ := (ha2 6 (by decide)).1.symm.trans k1_i6
  have k2_i7 : ρ2.i 7 = _ := (ha2 7 (by decide)).1.symm.trans k1_i7
  have k2_i8 : ρ2.i 8 = _ := (ha2 8 (by decide)).1.symm.trans k1_i8
  have k2_i9 : ρ2.i 9 = _ := (ha2 9 (by decide)).1.symm.trans k1_i9
  have k2_i10 : ρ2.i 10 = _ := (ha2 10 (by decide)).1.symm.trans k1_i10
  have k2_i11 : ρ2.i 11 = _ := (ha2 11 (by decide)).1.symm.trans k1_i11
  have k2_i12 : ρ2.i 12 = _ := (ha2 12 (by decide)).1.symm.trans k1_i12
  have k2_i13 : ρ2.i 13 = _ := (ha2 13 (by decide)).1.symm.trans k1_i13
  have k2_i14 : ρ2.i 14 = _ := (ha2 14 (by decide)).1.symm.trans k1_i14
  have k2_i15 : ρ2.i 15 = _ := (ha2 15 (by decide)).1.symm.trans k1_i15
  have k2_i16 : ρ2.i 16 = _ := (ha2 16 (by decide)).1.symm.trans k1_i16
  have k2_i17 : ρ2.i 17 = _ := (ha2 17 (by decide)).1.symm.trans k1_i17
  have k2_i18 : ρ2.i 18 = _ := (ha2 18 (by decide)).1.symm.trans k1_i18
  have k2_i19 : ρ2.i 19 = _ := (ha2 19 (by decide)).1.symm.trans k1_i19
  have k2_i20 : ρ2.i 20 = _ := (ha2 20 (by decide)).1.symm.trans k1_i20
  have k2_i21 : ρ2.i 21 = _ := (ha2 21 (by decide)).1.symm.trans k1_i21
  have k2_i22 : ρ2.i 22 = _ := (ha2 22 (by decide)).1.symm.trans k1_i22
  have k2_i25 : ρ2.i 25 = _ := (ha2 25 (by decide)).1.symm.trans k1_i25
  have k2_b26 : ρ2.b 26 = _ := (ha2 26 (by decide)).2.1.symm.trans k1_b26
  simp only [k2_l0, k2_i1, k2_i2, k2_i3, k2_i4, k2_i5, k2_i6, k2_i7, k2_i8, k2_i9, k2_i10, k2_i11, k2_i12, k2_i13, k2_i14, k2_i15, k2_i16, k2_i17, k2_i18, k2_i19, k2_i20, k2_i21, k2_i22, k2_i25, k2_b26, k2_i27, spanAt_mk, spR_mk, kf_mk, nf_mk, Int.toNat_natCast, -eq_self]
  refine ⟨fun c10 => ?_, fun c10 => ?_⟩
  refine ⟨fun c11 => ?_, fun c11 => ?_⟩
  · exact absurd (of_decide_eq_true c11) (by omega)
  refine ⟨fun c12 => ?_, fun c12 => ?_⟩
  refine ⟨fun c13 => ?_, fun c13 => ?_⟩
  · have hj2 : j < i := by have h := of_decide_eq_true c10; rw [List.length_take] at h; omega
    have hO := (aR_u c0).ok (getD_mem (show j < l.length by omega))
    exact absurd (of_decide_eq_true c13) (Int.not_lt.2 hO.1.1)
  refine ⟨fun c14 => ?_, fun c14 => ?_⟩
  refine ⟨fun c15 => ?_, fun c15 => ?_⟩
  refine ⟨fun c16 => ?_, fun c16 => ?_⟩
  refine ⟨fun c17 => ?_, fun c17 => ?_⟩
  · have hj2 : j < i := by have h := of_decide_eq_true c10; rw [List.length_take] at h; omega
    rw [addN hj2 (Nat.le_trans hi hp)]
    exact ⟨⟨j + 1, rfl, hj2, snoc hv (fun h => absurd (of_decide_eq_true c17) (Int.not_lt.2 h.2.1))⟩, by show i - (((j + 1 : Nat) : Int)).toNat < i - ((j : Int)).toNat; omega⟩
  refine ⟨fun c18 => ?_, fun c18 => ?_⟩
  · have hj2 : j < i := by have h := of_decide_eq_true c10; rw [List.length_take] at h; omega
    rw [addN hj2 (Nat.le_trans hi hp)]
    exact ⟨⟨j + 1, rfl, hj2, snoc hv (fun h => absurd (of_decide_eq_true c18) (Int.not_lt.2 h.2.2))⟩, by show i - (((j + 1 : Nat) : Int)).toNat < i - ((j : Int)).toNat; omega⟩
  · have hj2 : j < i := by have h := of_decide_eq_true c10; rw [List.length_take] at h; omega
    rw [aChk_n hi2 (fun h => h.2 j hj2 ⟨⟨eqI c15, eqI c16⟩, Int.not_lt.1 (of_decide_eq_false c17), Int.not_lt.1 (of_decide_eq_false c18)⟩)]; try rfl
  · have hj2 : j < i := by have h := of_decide_eq_true c10; rw [List.length_take] at h; omega
    rw [addN hj2 (Nat.le_trans hi hp)]
    exact ⟨⟨j + 1, rfl, hj2, snoc hv (fun h => neI c16 h.1.2)⟩, by show i - (((j + 1 : Nat) : Int)).toNat < i - ((j : Int)).toNat; omega⟩
  · have hj2 : j < i := by have h := of_decide_eq_true c10; rw [List.length_take] at h; omega
    rw [addN hj2 (Nat.le_trans hi hp)]
    exact ⟨⟨j + 1, rfl, hj2, snoc hv (fun h => neI c15 h.1.1)⟩, by show i - (((j + 1 : Nat) : Int)).toNat < i - ((j : Int)).toNat; omega⟩
  · have hj2 : j < i := by have h := of_decide_eq_true c10; rw [List.length_take] at h; omega
    have hO := (aR_u c0).ok (getD_mem (show j < l.length by omega))
    exact absurd hO.1.2 (of_decide_eq_false c14)
  · have hj2 : j < i := by have h := of_decide_eq_true c10; rw [List.length_take] at h; omega
    exact absurd (of_decide_eq_false c12) (by omega)
  · have hji : j = i := by have h := of_decide_eq_false c10; rw [List.length_take] at h; omega
    have hbd : ¬ badPl q (l.getD i []) := by
      intro h
      rcases h with h | h
      · exact neI c6 h
      · exact Bool.noConfusion (h.2.symm.trans c8)
    rw [hji] at hv
    rw [addN hi2 hp]
    exact ⟨⟨i + 1, rfl, hi2, snoc hu ⟨hbd, hv⟩⟩, by show l.length - (((i + 1 : Nat) : Int)).toNat < l.length - ((i : Int)).toNat; omega⟩
  · rw [aChk_n (Int.ofNat_lt.1 (of_decide_eq_true c2)) (fun h => h.1 (.inr ⟨eqI c7, c8⟩))]; try rfl
  refine ⟨fun c19 => ?_, fun c19 => ?_⟩
  · have h2 := (Int.ofNat_lt.1 (of_decide_eq_true c2))
    exact absurd (of_decide_eq_true c19) (by omega)
  have hi2 := (Int.ofNat_lt.1 (of_decide_eq_true c2))
  refine ⟨fun ds => ∃ j : Nat, ds = [.z (j : Int)] ∧ j ≤ i ∧ ∀ m, m < j → ¬ clash q (l.getD i []) (l.getD m []), fun ds => i - (dI ds 0).toNat, ⟨0, rfl, Nat.zero_le _, fun m hm => absurd hm (Nat.not_lt_zero _)⟩, ?_⟩
  intro ρ2 ha2 _ hi3
  obtain ⟨j, k2_i26, hj, hv⟩ := hi3
  simp only [List.cons.injEq, Dt.z.injEq, Dt.l.injEq, b2i_eq_iff, and_true] at k2_i26
  have k2_l0 : ρ2.l 0 = _ := (ha2 0 (by decide)).2.2.symm.trans k1_l0
  have k2_i1 : ρ2.i 1 = _ := (ha2 1 (by decide)).1.symm.trans k1_i1
  have k2_i2 : ρ2.i 2 = _ := (ha2 2 (by decide)).1.symm.trans k1_i2
  have k2_i3 : ρ2.i 3 = _ := (ha2 3 (by decide)).1.symm.trans k1_i3
  have k2_i4 : ρ2.i 4 = _ := (ha2 4 (by decide)).1.symm.trans k1_i4
  have k2_i5 : ρ2.i 5 = _ := (ha2 5 (by decide)).1.symm.trans k1_i5
  have k2_i6 : ρ2.i 6 = _ := (ha2 6 (by decide)).1.symm.trans k1_i6
  have k2_i7 : ρ2.i 7 = _ := (ha2 7 (by decide)).1.symm.trans k1_i7
  have k2_i8 : ρ2.i 8 = _ := (ha2 8 (by decide)).1.symm.trans k1_i8
  have k2_i9 : ρ2.i 9 = _ := (ha2 9 (by decide)).1.symm.trans k1_i9
  have k2_i10 : ρ2.i 10 = _ := (ha2 10 (by decide)).1.symm.trans k1_i10
  have k2_i11 : ρ2.i 11 = _ := (ha2 11 (by decide)).1.symm.trans k1_i11
  have k2_i12 : ρ2.i 12 = _ := (ha2 12 (by decide)).1.symm.trans k1_i12
  have k2_i13 : ρ2.i 13 = _ := (ha2 13 (by decide)).1.symm.trans k1_i13
  have k2_i14 : ρ2.i 14 = _ := (ha2 14 (by decide)).1.symm.trans k1_i14
  have k2_i15 : ρ2.i 15 = _ := (ha2 15 (by decide)).1.symm.trans k1_i15
  have k2_i16 : ρ2.i 16 = _ := (ha2 16 (by decide)).1.symm.trans k1_i16
  have k2_i17 : ρ2.i 17 = _ := (ha2 17 (by decide)).1.symm.trans k1_i17
  have k2_i18 : ρ2.i 18 = _ := (ha2 18 (by decide)).1.symm.trans k1_i18
  have k2_i19 : ρ2.i 19 = _ := (ha2 19 (by decide)).1.symm.trans k1_i19
  have k2_i20 : ρ2.i 20 = _ := (ha2 20 (by decide)).1.symm.trans k1_i20
  have k2_i21 : ρ2.i 21 = _ := (ha2 21 (by decide)).1.symm.trans k1_i21
  have k2_i22 : ρ2.i 22 = _ := (ha2 22 (by decide)).1.symm.trans k1_i22
  have k2_i25 : ρ2.i 25 = _ := (ha2 25 (by decide)).1.symm.trans k1_i25
  simp only [k2_l0, k2_i1, k2_i2, k2_i3, k2_i4, k2_i5, k2_i6, k2_i7, k2_i8, k2_i9, k2_i10, k2_i11, k2_i12, k2_i13, k2_i14, k2_i15, k2_i16, k2_i17, k2_i18, k2_i19, k2_i20, k2_i21, k2_i22, k2_i25, k2_i26, spanAt_mk, spR_mk, kf_mk, nf_mk, Int.toNat_natCast, -eq_self]
  refine ⟨fun c20 => ?_, fun c20 => ?_⟩
  refine ⟨fun c21 => ?_, fun c21 => ?_⟩
  · exact absurd (of_decide_eq_true c21) (by omega)
  refine ⟨fun c22 => ?_, fun c22 => ?_⟩
  refine ⟨fun c23 => ?_, fun c23 => ?_⟩
  · have hj2 : j < i := by have h := of_decide_eq_true c20; rw [List.length_take] at h; omega
    have hO := (aR_u c0).ok (getD_mem (show j < l.length by omega))
    exact absurd (of_decide_eq_true c23) (Int.not_lt.2 hO.1.1)
  refine ⟨fun c24 => ?_, fun c24 => ?_⟩
  refine ⟨fun c25 => ?_, fun c25 => ?_⟩
  refine ⟨fun c26 => ?_, fun c26 => ?_⟩
  refine ⟨fun c27 => ?_, fun c27 => ?_⟩
  · have hj2 : j < i := by have h := of_decide_eq_true c20; rw [List.length_take] at h; omega
    rw [addN hj2 (Nat.le_trans hi hp)]
    exact ⟨⟨j + 1, rfl, hj2, snoc hv (fun h => absurd (of_decide_eq_true c27) (Int.not_lt.2 h.2.1))⟩, by show i - (((j + 1 : Nat) : Int)).toNat < i - ((j : Int)).toNat; omega⟩
  refine ⟨fun c28 => ?_, fun c28 => ?_⟩
  · have hj2 : j < i := by have h := of_decide_eq_true c20; rw [List.length_take] at h; omega
    rw [addN hj2 (Nat.le_trans hi hp)]
    exact ⟨⟨j + 1, rfl, hj2, snoc hv (fun h => absurd (of_decide_eq_true c28) (Int.not_lt.2 h.2.2))⟩, by show i - (((j + 1 : Nat) : Int)).toNat < i - ((j : Int)).toNat; omega⟩
  · have hj2 : j < i := by have h := of_decide_eq_true c20; rw [List.length_take] at h; omega
    rw [aChk_n hi2 (fun h => h.2 j hj2 ⟨⟨eqI c25, eqI c26⟩, Int.not_lt.1 (of_decide_eq_false c27), Int.not_lt.1 (of_decide_eq_false c28)⟩)]; try rfl
  · have hj2 : j < i := by have h := of_decide_eq_true c20; rw [List.length_take] at h; omega
    rw [addN hj2 (Nat.le_trans hi hp)]
    exact ⟨⟨j + 1, rfl, hj2, snoc hv (fun h => neI c26 h.1.2)⟩, by show i - (((j + 1 : Nat) : Int)).toNat < i - ((j : Int)).toNat; omega⟩
  · have hj2 : j < i := by have h := of_decide_eq_true c20; rw [List.length_take] at h; omega
    rw [addN hj2 (Nat.le_trans hi hp)]
    exact ⟨⟨j + 1, rfl, hj2, snoc hv (fun h => neI c25 h.1.1)⟩, by show i - (((j + 1 : Nat) : Int)).toNat < i - ((j : Int)).toNat; omega⟩
  · have hj2 : j < i := by have h := of_decide_eq_true c20; rw [List.length_take] at h; omega
    have hO := (aR_u c0).ok (getD_mem (show j < l.length by omega))
    exact absurd hO.1.2 (of_decide_eq_false c24)
  · have hj2 : j < i := by have h := of_decide_eq_true c20; rw [List.length_take] at h; omega
    exact absurd (of_decide_eq_false c22) (by omega)
  · have hji : j = i := by have h := of_decide_eq_false c20; rw [List.length_take] at h; omega
    have hbd : ¬ badPl q (l.getD i []) := by
      intro h
      rcases h with h | h
      · exact neI c6 h
      · exact neI c7 h.1
    rw [hji] at hv
    rw [addN hi2 hp]
    exact ⟨⟨i + 1, rfl, hi2, snoc hu ⟨hbd, hv⟩⟩, by show l.length - (((i + 1 : Nat) : Int)).toNat < l.length - ((i : Int)).toNat; omega⟩
  · have hO := (aR_u c0).ok (getD_mem (Int.ofNat_lt.1 (of_decide_eq_true c2)))
    exact absurd hO.1.2 (of_decide_eq_false c5)
  · rw [aChk_y c0 c1 (fun h => of_decide_eq_false c2 (Int.ofNat_lt.2 h)) hu]; try rfl
  · rw [aChk_1 c1]; try rfl
  · rw [aChk_0 c0]; try rfl
theorem sK_achk {sp : Spec} {key : Nat} (hF : sp.F key = sF_achk) (hP : sp.pre key = sQ_achk) : SmOk Try.prog sp (sM_achk key) :=
  fun_ok (s := sM_achk key) hF hP (by kernel_rfl) tysok_AlJ (smc (sK_aright rfl rfl) (smc (sK_amay rfl) (smc (sK_amay0 rfl) sm0))) Try.func9 fn0 sR_achk (.inr (fun xs h L hL => by unfold sQ_achk at h; split at h <;> first | exact h.elim | (simp at hL; subst hL; exact h))) (fun x0 gx0 x1 gx1 x2 gx2 x3 gx3 x4 gx4 x5 gx5 x6 gx6 x7 gx7 x8 gx8 x9 gx9 x10 gx10 x11 gx11 x12 gx12 x13 gx13 x14 gx14 x15 gx15 x16 gx16 x17 gx17 x18 gx18 x19 gx19 x20 gx20 x21 gx21 x22 gx22 hp ρ g => sX_achk x0 gx0 ⟨x1, x2, x3, x4, x5, x6, x7, x8, x9, x10, x11, x12, x13, x14, x15, x16, x17, x18, x19, x20, x21, x22⟩ ⟨gx1, gx2, gx3, gx4, gx5, gx6, gx7, gx8, gx9, gx10, gx11, gx12, gx13, gx14, gx15, gx16, gx17, gx18, gx19, gx20, gx21, gx22⟩ hp ρ g)
end Go.Proofs.Ytoaffiooliclgaa
