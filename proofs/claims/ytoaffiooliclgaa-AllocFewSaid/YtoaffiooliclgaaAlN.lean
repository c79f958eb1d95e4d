/- The law AllocFew. -/
import Derived.Test.YtoaffiooliclgaaAlL
import Derived.Test.YtoaffiooliclgaaSyQ
import Derived.Test.YtoaffiooliclgaaProg
import Derived.Laws.Externs
set_option linter.unusedVariables false
set_option linter.unusedSimpArgs false
namespace Go.Proofs.Ytoaffiooliclgaa
open Go.RowKit Go.ChangeShapes Go.WideShapes

theorem rwI64 : Rw Try.prog 3 [some .i64] := Rw.int .i64 Try.underlying3 (by kernel_rfl)
theorem rwBo : Rw Try.prog 4 [none] := Rw.bool Try.underlying4 (by kernel_rfl)
theorem rwSpan : Rw Try.prog 25 [some .i64, some .i64, some .i64, none] := Rw.struct (ks := [some .i64, some .i64, some .i64, none]) (RwSeq.cons (ks := [some .i64]) rwI64 (by rfl) (RwSeq.cons (ks := [some .i64]) rwI64 (by rfl) (RwSeq.cons (ks := [some .i64]) rwI64 (by rfl) (RwSeq.cons (ks := [none]) rwBo (by rfl) (RwSeq.nil _ _))))) Try.underlying25 (by kernel_rfl)
def tys_AlN : List (Nat × TI) := [(3, ⟨false, 1, [.int .i64 (.lit 0)], [], none, some .i64, false, false, none, 8, false, none, false, 0⟩),
 (4, ⟨false, 1, [.bool (.tt false)], [], none, none, false, true, none, 1, false, none, false, 0⟩),
 (22, ⟨false, 1, [.nsl], [], none, none, false, false, some 25, 24, false, none, false, 0⟩),
 (25, ⟨true, 4, [.int .i64 (.lit 0), .int .i64 (.lit 0), .int .i64 (.lit 0), .bool (.tt false)], [(0, 3), (1, 3), (2, 3), (3, 4)], none, none, true, false, none, 32, false, none, false, 0⟩),
 (26, ⟨false, 1, [.int .i8 (.lit 0)], [], none, some .i8, false, false, none, 1, false, none, false, 0⟩),
 (28, ⟨true, 2, [.int .i8 (.lit 0), .int .i8 (.lit 0)], [(0, 26), (1, 26)], none, none, true, false, none, 2, false, none, true, 0⟩),
 (29, ⟨true, 22, [.int .i8 (.lit 0), .int .i8 (.lit 0), .int .i8 (.lit 0), .int .i8 (.lit 0), .int .i8 (.lit 0), .int .i8 (.lit 0), .int .i8 (.lit 0), .int .i8 (.lit 0), .int .i8 (.lit 0), .int .i8 (.lit 0), .int .i8 (.lit 0), .int .i8 (.lit 0), .int .i8 (.lit 0), .int .i8 (.lit 0), .int .i8 (.lit 0), .int .i8 (.lit 0), .int .i8 (.lit 0), .int .i8 (.lit 0), .int .i8 (.lit 0), .int .i8 (.lit 0), .int .i8 (.lit 0), .int .i8 (.lit 0)], [], some (11, 28), none, true, false, none, 22, false, none, false, 0⟩),
 (30, ⟨false, 1, [.int .i64 (.lit 0)], [], none, some .i64, false, false, none, 8, false, none, false, 0⟩)]
set_option maxRecDepth 100000 in
theorem tysck_AlN : (tys_AlN.all fun p => ckTI Try.prog p.1 p.2) = true := by kernel_rfl
theorem tyseq_AlN : (tys_AlN.all fun p => !p.2.eqok || ((Nat.beq p.1 25 && kindsC p.2.zero z_Span) || (Nat.beq p.1 28 && kindsC p.2.zero z_Place) || (Nat.beq p.1 29 && kindsC p.2.zero z_P11))) = true := by kernel_rfl
theorem tyskn_AlN : (tys_AlN.all fun p => !p.2.keyok || ((Nat.beq p.1 28 && kindsC p.2.zero z_Place))) = true := by kernel_rfl
theorem tysok_AlN : ∀ t i, (t, i) ∈ tys_AlN → TIok Try.prog t i := by
  intro t i h
  refine TIok_of (all_at (f := ckTI Try.prog) tysck_AlN h) (fun he => ?_) (fun he => ?_) (fun he => ?_)
  · have h1 := List.all_eq_true.1 tyseq_AlN (t, i) h
    simp only [he, Bool.not_true, Bool.false_or, Bool.or_eq_true, Bool.and_eq_true] at h1
    rcases h1 with (h1 | h1) | h1
    · have hs := h1.2
      obtain rfl := Nat.eq_of_beq_eq_true h1.1
      exact fun vs us hv hu => eq_Span vs us (kindsV_of hs hv) (kindsV_of hs hu)
    · have hs := h1.2
      obtain rfl := Nat.eq_of_beq_eq_true h1.1
      exact fun vs us hv hu => eq_Place vs us (kindsV_of hs hv) (kindsV_of hs hu)
    · have hs := h1.2
      obtain rfl := Nat.eq_of_beq_eq_true h1.1
      exact fun vs us hv hu => eq_P11 vs us (kindsV_of hs hv) (kindsV_of hs hu)
  · have h1 := List.all_eq_true.1 tyseq_AlN (t, i) h
    simp only [he, Bool.not_true, Bool.false_or, Bool.or_eq_true, Bool.and_eq_true] at h1
    rcases h1 with (h1 | h1) | h1
    · have hs := h1.2
      obtain rfl := Nat.eq_of_beq_eq_true h1.1
      exact grd_Span
    · have hs := h1.2
      obtain rfl := Nat.eq_of_beq_eq_true h1.1
      exact grd_Place
    · have hs := h1.2
      obtain rfl := Nat.eq_of_beq_eq_true h1.1
      exact grd_P11
  · have h1 := List.all_eq_true.1 tyskn_AlN (t, i) h
    simp only [he, Bool.not_true, Bool.false_or, Bool.or_eq_true, Bool.and_eq_true] at h1
    have hs := h1.2
    obtain rfl := Nat.eq_of_beq_eq_true h1.1
    exact fun vs hv => key_Place vs (kindsV_of hs hv)
def sM_afew (key : Nat) : Sm := ⟨4, key, [.one (.sl [some .i64, some .i64, some .i64, none] 25)], [.one .bool], false⟩
def sV_afew (l : List (List Int)) : List Dt := [.z (b2i true)]
def sF_afew : List Dt → List Dt
  | [.l x0] => sV_afew x0
  | _ => []
def sT_afew : Tr :=
(.br (.lt (.lit 30) (.len (.lvar 0)))
(.call 2 [.bool] .nil 1
(.leaf (.consb (.bvar 1) .nil)))
(.call 0 (kP11 ++ [.int .i64]) (.consl (.lvar 0) .nil) 1
(.br (.eq (.var 23) (.lit 0))
(.loop 0 24 [.int .i64, .bool, .int .i64] (.cons (.lit 0) (.consb (.tt false) (.cons (.lit 0) .nil)))
(.br (.lt (.var 24) (.len (.lvar 0)))
(.br (.lt (.var 24) (.lit 0))
.panic
(.br (.bvar 25)
(.loop 1 27 [.int .i64, .int .i64] (.cons (.lit 0) (.cons (.lit 0) .nil))
(.br (.lt (.var 27) (.len (.lvar 0)))
(.br (.lt (.var 27) (.lit 0))
.panic
(.br (.lt (.get (.lvar 0) (.var 24) 1) (.get (.lvar 0) (.var 27) 1))
(.next 1 (.cons (.bin .add .i64 (.var 27) (.lit 1)) (.cons (.var 28) .nil)))
(.br (.lt (.get (.lvar 0) (.var 27) 2) (.get (.lvar 0) (.var 24) 1))
(.next 1 (.cons (.bin .add .i64 (.var 27) (.lit 1)) (.cons (.var 28) .nil)))
(.next 1 (.cons (.bin .add .i64 (.var 27) (.lit 1)) (.cons (.bin .add .i64 (.var 28) (.lit 1)) .nil))))))
(.next 0 (.cons (.bin .add .i64 (.var 24) (.lit 1)) (.consb (.tt true) (.cons (.mx (.var 26) (.var 28)) .nil))))))
(.loop 1 27 [.int .i64, .int .i64] (.cons (.lit 0) (.cons (.lit 0) .nil))
(.br (.lt (.var 27) (.len (.lvar 0)))
(.br (.lt (.var 27) (.lit 0))
.panic
(.br (.lt (.get (.lvar 0) (.var 24) 1) (.get (.lvar 0) (.var 27) 1))
(.next 1 (.cons (.bin .add .i64 (.var 27) (.lit 1)) (.cons (.var 28) .nil)))
(.br (.lt (.get (.lvar 0) (.var 27) 2) (.get (.lvar 0) (.var 24) 1))
(.next 1 (.cons (.bin .add .i64 (.var 27) (.lit 1)) (.cons (.var 28) .nil)))
(.next 1 (.cons (.bin .add .i64 (.var 27) (.lit 1)) (.cons (.bin .add .i64 (.var 28) (.lit 1)) .nil))))))
(.next 0 (.cons (.bin .add .i64 (.var 24) (.lit 1)) (.consb (.getb (.lvar 0) (.var 24) 3) (.cons (.mx (.var 26) (.var 28)) .nil))))))))
(.br (.bvar 25)
(.br (.lt (.lit 2) (.var 26))
(.call 2 [.bool] .nil 27
(.leaf (.consb (.bvar 27) .nil)))
(.br (.lt (.lit 6) (.var 26))
(.call 2 [.bool] .nil 27
(.leaf (.consb (.bvar 27) .nil)))
(.call 1 [.int .i64] (.vs 1 22 .nil) 27
(.br (.eq (.var 27) (.lit 0))
(.call 2 [.bool] .nil 28
(.leaf (.consb (.bvar 28) .nil)))
(.leaf (.consb (.tt false) .nil))))))
(.br (.lt (.lit 6) (.var 26))
(.call 2 [.bool] .nil 27
(.leaf (.consb (.bvar 27) .nil)))
(.call 1 [.int .i64] (.vs 1 22 .nil) 27
(.br (.eq (.var 27) (.lit 0))
(.call 2 [.bool] .nil 28
(.leaf (.consb (.bvar 28) .nil)))
(.leaf (.consb (.tt false) .nil))))))))
(.call 2 [.bool] .nil 24
(.leaf (.consb (.bvar 24) .nil))))))
def sP_afew : Spec := ⟨fun k => match k with | 0 => sF_arun | 1 => sF_aspill | 2 => sF_awakes | _ => fun _ => [], fun k => match k with | 0 => sQ_arun | _ => fun _ => True⟩
set_option maxRecDepth 100000 in
theorem sR_afew : treeIs tys_AlN [sM_arun 0, sM_aspill 1, sM_awakes 2] [] [(8, [.tmpI 26 .i64, .tmpB 5, .tmpI 6 .i64, .top 27, .top 28, .top 29, .top 8, .top 30, .top 31, .top 32, .top 33, .top 34, .top 9, .top 35, .top 36, .top 37, .top 38, .top 39, .top 40, .top 11, .top 41, .top 42, .top 43, .top 44, .top 45, .top 46, .top 47, .top 48, .top 49, .top 50, .top 51, .top 52, .top 53, .top 54, .top 55, .top 56, .top 57, .top 58, .top 59]), (13, [.tmpI 37 .i64, .tmpI 9 .i64, .top 38, .top 39, .top 40, .top 11, .top 41, .top 42, .top 43, .top 44, .top 45, .top 46, .top 47, .top 48, .top 49, .top 50, .top 51, .top 52, .top 53, .top 54, .top 55]), (999999, [])] [] 200 Try.f4 [.one (.sl [some .i64, some .i64, some .i64, none] 25)] [.one .bool] false [.list [some .i64, some .i64, some .i64, none]] sT_afew := ⟨by kernel_rfl, by kernel_rfl, by kernel_rfl⟩
set_option maxRecDepth 100000 in
set_option maxHeartbeats 8000000 in
theorem sX_afew (l : List (List Int)) (hl : RowsIn [some .i64, some .i64, some .i64, none] l) (ρ : Env) (g : varsD ρ 0 [.list [some .i64, some .i64, some .i64, none]] = [.l l]) : sT_afew.asks sP_afew (fun ρ e => e.D ρ = sF_afew [.l l]) ρ fun _ _ => False := by
  have keepg := g
  simp only [varsD, varD, List.cons.injEq, Dt.z.injEq, Dt.l.injEq, b2i_eq_iff, Nat.reduceAdd, and_true] at g
  simp only [sT_afew, sP_afew, kP11, sF_arun, sF_aspill, sF_awakes, sV_arun, sV_aspill, sF_afew, sV_afew, sQ_arun, Tr.asks, upd_same, okDs, okD, eqs, E.I, E.B, E.L, E.R, E.D, E.vs, dI, dB, dL, varD, varsD, List.getElem?_cons_zero, List.getElem?_cons_succ, List.cons_append, List.nil_append, Nat.zero_add, Nat.add_zero, Nat.reduceAdd, and_true, true_and, b2i_one, -eq_self, Span.eta, Place.eta, P11.eta, spanAt_mk, spR_mk, kf_mk, nf_mk, g]
  have k0_l0 := g
  refine ⟨fun c0 => ?_, fun c0 => ?_⟩
  intro e; (try simp only [e, Span.eta, Place.eta, P11.eta, spanAt_mk, spR_mk, kf_mk, nf_mk, -eq_self]); clear e
  · rfl
  refine ⟨?_, ?_⟩
  · exact (Nat.le_trans (Nat.not_lt.1 fun h => of_decide_eq_false c0 (by omega)) (by decide : 30 ≤ maxLen))
  intro e; have qe := e; obtain ⟨k0_i1, k0_i2, k0_i3, k0_i4, k0_i5, k0_i6, k0_i7, k0_i8, k0_i9, k0_i10, k0_i11, k0_i12, k0_i13, k0_i14, k0_i15, k0_i16, k0_i17, k0_i18, k0_i19, k0_i20, k0_i21, k0_i22, k0_i23⟩ := qe; (try simp only [e, Span.eta, Place.eta, P11.eta, spanAt_mk, spR_mk, kf_mk, nf_mk, -eq_self]); clear e
  refine ⟨fun c1 => ?_, fun c1 => ?_⟩
  have hp : l.length ≤ maxLen := (Nat.le_trans (Nat.not_lt.1 fun h => of_decide_eq_false c0 (by omega)) (by decide : 30 ≤ maxLen))
  have h30 : l.length ≤ 30 := Nat.not_lt.1 fun h => of_decide_eq_false c0 (by omega)
  have hA : aRight l = true := aRun_ok.1 (eqI c1)
  refine ⟨fun ds => ∃ i : Nat, ds = [.z (i : Int), .z (b2i ((l.take i).any ov)), .z (mostN l i)] ∧ i ≤ l.length, fun ds => l.length - (dI ds 0).toNat, ⟨0, rfl, Nat.zero_le _⟩, ?_⟩
  intro ρ1 ha1 _ hi1
  obtain ⟨i, hds, hi⟩ := hi1
  simp only [List.cons.injEq, Dt.z.injEq, Dt.l.injEq, b2i_eq_iff, and_true] at hds
  obtain ⟨k1_i24, k1_b25, k1_i26⟩ := hds
  have k1_l0 : ρ1.l 0 = _ := (ha1 0 (by decide)).2.2.symm.trans k0_l0
  have k1_i1 : ρ1.i 1 = _ := (ha1 1 (by decide)).1.symm.trans k0_i1
  have k1_i2 : ρ1.i 2 = _ := (ha1 2 (by decide)).1.symm.trans k0_i2
  have k1_i3 : ρ1.i 3 = _ := (ha1 3 (by decide)).1.symm.trans k0_i3
  have k1_i4 : ρ1.i 4 = _ := (ha1 4 (by decide)).1.symm.trans k0_i4
  have k1_i5 : ρ1.i 5 = _ := (ha1 5 (by decide)).1.symm.trans k0_i5
  have k1_i6 : ρ1.i 6 = _ := (ha1 6 (by decide)).1.symm.trans k0_i6
  have k1_i7 : ρ1.i 7 = _ := (ha1 7 (by decide)).1.symm.trans k0_i7
  have k1_i8 : ρ1.i 8 = _ := (ha1 8 (by decide)).1.symm.trans k0_i8
  have k1_i9 : ρ1.i 9 = _ := (ha1 9 (by decide)).1.symm.trans k0_i9
  have k1_i10 : ρ1.i 10 = _ := (ha1 10 (by decide)).1.symm.trans k0_i10
  have k1_i11 : ρ1.i 11 = _ := (ha1 11 (by decide)).1.symm.trans k0_i11
  have k1_i12 : ρ1.i 12 = _ := (ha1 12 (by decide)).1.symm.trans k0_i12
  have k1_i13 : ρ1.i 13 = _ := (ha1 13 (by decide)).1.symm.trans k0_i13
  have k1_i14 : ρ1.i 14 = _ := (ha1 14 (by decide)).1.symm.trans k0_i14
  have k1_i15 : ρ1.i 15 = _ := (ha1 15 (by decide)).1.symm.trans k0_i15
  have k1_i16 : ρ1.i 16 = _ := (ha1 16 (by decide)).1.symm.trans k0_i16
  have k1_i17 : ρ1.i 17 = _ := (ha1 17 (by decide)).1.symm.trans k0_i17
  have k1_i18 : ρ1.i 18 = _ := (ha1 18 (by decide)).1.symm.trans k0_i18
  have k1_i19 : ρ1.i 19 = _ := (ha1 19 (by decide)).1.symm.trans k0_i19
  have k1_i20 : ρ1.i 20 = _ := (ha1 20 (by decide)).1.symm.trans k0_i20
  have k1_i21 : ρ1.i 21 = _ := (ha1 21 (by decide)).1.symm.trans k0_i21
  have k1_i22 : ρ1.i 22 = _ := (ha1 22 (by decide)).1.symm.trans k0_i22
  have k1_i23 : ρ1.i 23 = _ := (ha1 23 (by decide)).1.symm.trans k0_i23
  simp only [k1_l0, k1_i1, k1_i2, k1_i3, k1_i4, k1_i5, k1_i6, k1_i7, k1_i8, k1_i9, k1_i10, k1_i11, k1_i12, k1_i13, k1_i14, k1_i15, k1_i16, k1_i17, k1_i18, k1_i19, k1_i20, k1_i21, k1_i22, k1_i23, k1_i24, k1_b25, k1_i26, spanAt_mk, spR_mk, -eq_self]
  refine ⟨fun c2 => ?_, fun c2 => ?_⟩
  refine ⟨fun c3 => ?_, fun c3 => ?_⟩
  · exact absurd (of_decide_eq_true c3) (by omega)
  refine ⟨fun c4 => ?_, fun c4 => ?_⟩
  have hi2 : i < l.length := Int.ofNat_lt.1 (of_decide_eq_true c2)
  refine ⟨fun ds => ∃ j : Nat, ds = [.z (j : Int), .z ((nAtN l (l.getD i []) j : Nat) : Int)] ∧ j ≤ l.length, fun ds => l.length - (dI ds 0).toNat, ⟨0, (by unfold nAtN; rfl), Nat.zero_le _⟩, ?_⟩
  intro ρ2 ha2 _ hi3
  obtain ⟨j, hds, hj⟩ := hi3
  simp only [List.cons.injEq, Dt.z.injEq, Dt.l.injEq, b2i_eq_iff, and_true] at hds
  obtain ⟨k2_i27, k2_i28⟩ := hds
  have k2_l0 : ρ2.l 0 = _ := (ha2 0 (by decide)).2.2.symm.trans k1_l0
  have k2_i1 : ρ2.i 1 = _ := (ha2 1 (by decide)).1.symm.trans k1_i1
  have k2_i2 : ρ2.i 2 = _ := (ha2 2 (by decide)).1.symm.trans k1_i2
  have k2_i3 : ρ2.i 3 = _ := (ha2 3 (by decide)).1.symm.trans k1_i3
  have k2_i4 : ρ2.i 4 = _ := (ha2 4 (by decide)).1.symm.trans k1_i4
  have k2_i5 : ρ2.i 5 = _ := (ha2 5 (by decide)).1.symm.trans k1_i5
  have k2_i6 : ρ2.i 6 = _ := (ha2 6 (by decide)).1.symm.trans k1_i6
  have k2_i7 : ρ2.i 7 = _ := (ha2 7 (by decide)).1.symm.trans k1_i7
  have k2_i8 : ρ2.i 8 = _ := (ha2 8 (by decide)).1.symm.trans k1_i8
  have k2_i9 : ρ2.i 9 = _ := (ha2 9 (by decide)).1.symm.trans k1_i9
  have k2_i10 : ρ2.i 10 = _ := (ha2 10 (by decide)).1.symm.trans k1_i10
  have k2_i11 : ρ2.i 11 = _ := (ha2 11 (by decide)).1.symm.trans k1_i11
  have k2_i12 : ρ2.i 12 = _ := (ha2 12 (by decide)).1.symm.trans k1_i12
  have k2_i13 : ρ2.i 13 = _ := (ha2 13 (by decide)).1.symm.trans k1_i13
  have k2_i14 : ρ2.i 14 = _ := (ha2 14 (by decide)).1.symm.trans k1_i14
  have k2_i15 : ρ2.i 15 = _ := (ha2 15 (by decide)).1.symm.trans k1_i15
  have k2_i16 : ρ2.i 16 = _ := (ha2 16 (by decide)).1.symm.trans k1_i16
  have k2_i17 : ρ2.i 17 = _ := (ha2 17 (by decide)).1.symm.trans k1_i17
  have k2_i18 : ρ2.i 18 = _ := (ha2 18 (by decide)).1.symm.trans k1_i18
  have k2_i19 : ρ2.i 19 = _ := (ha2 19 (by decide)).1.symm.trans k1_i19
  have k2_i20 : ρ2.i 20 = _ := (ha2 20 (by decide)).1.symm.trans k1_i20
  have k2_i21 : ρ2.i 21 = _ := (ha2 21 (by decide)).1.symm.trans k1_i21
  have k2_i22 : ρ2.i 22 = _ := (ha2 22 (by decide)).1.symm.trans k1_i22
  have k2_i23 : ρ2.i 23 = _ := (ha2 23 (by decide)).1.symm.trans k1_i23
  have k2_i24 : ρ2.i 24 = _ := (ha2 24 (by decide)).1.symm.trans k1_i24
  have k2_b25 : ρ2.b 25 = _ := (ha2 25 (by decide)).2.1.symm.trans k1_b25
  have k2_i26 : ρ2.i 26 = _ := (ha2 26 (by decide)).1.symm.trans k1_i26
  simp only [k2_l0, k2_i1, k2_i2, k2_i3, k2_i4, k2_i5, k2_i6, k2_i7, k2_i8, k2_i9, k2_i10, k2_i11, k2_i12, k2_i13, k2_i14, k2_i15, k2_i16, k2_i17, k2_i18, k2_i19, k2_i20, k2_i21, k2_i22, k2_i23, k2_i24, k2_b25, k2_i26, k2_i27, k2_i28, spanAt_mk, spR_mk, -eq_self]
  refine ⟨fun c5 => ?_, fun c5 => ?_⟩
  refine ⟨fun c6 => ?_, fun c6 => ?_⟩
  · exact absurd (of_decide_eq_true c6) (by omega)
  refine ⟨fun c7 => ?_, fun c7 => ?_⟩
  · have hj2 : j < l.length := Int.ofNat_lt.1 (of_decide_eq_true c5)
    rw [addN hj2 hp]
    exact ⟨⟨j + 1, (by rw [nAtN_1 (s := l.getD i []) hj2 c7]), hj2⟩, by show l.length - (((j + 1 : Nat) : Int)).toNat < l.length - ((j : Int)).toNat; omega⟩
  refine ⟨fun c8 => ?_, fun c8 => ?_⟩
  · have hj2 : j < l.length := Int.ofNat_lt.1 (of_decide_eq_true c5)
    rw [addN hj2 hp]
    exact ⟨⟨j + 1, (by rw [nAtN_2 (s := l.getD i []) hj2 c8]), hj2⟩, by show l.length - (((j + 1 : Nat) : Int)).toNat < l.length - ((j : Int)).toNat; omega⟩
  · have hnl := nAtN_le l (l.getD i []) j
    have hj2 : j < l.length := Int.ofNat_lt.1 (of_decide_eq_true c5)
    rw [addN hj2 hp, addN (show nAtN l (l.getD i []) j < 31 by have hj3 : j < l.length := Int.ofNat_lt.1 (of_decide_eq_true c5); omega) (by decide)]
    exact ⟨⟨j + 1, (by rw [nAtN_3 (s := l.getD i []) hj2 c7 c8]), hj2⟩, by show l.length - (((j + 1 : Nat) : Int)).toNat < l.length - ((j : Int)).toNat; omega⟩
  · rw [addN hi2 hp, nAtN_end (fun h => of_decide_eq_false c5 (Int.ofNat_lt.2 h)), ← most_step]
    exact ⟨⟨i + 1, (by rw [any_step hi2, c4]; rfl), hi2⟩, by show l.length - (((i + 1 : Nat) : Int)).toNat < l.length - ((i : Int)).toNat; omega⟩
  have hi2 : i < l.length := Int.ofNat_lt.1 (of_decide_eq_true c2)
  refine ⟨fun ds => ∃ j : Nat, ds = [.z (j : Int), .z ((nAtN l (l.getD i []) j : Nat) : Int)] ∧ j ≤ l.length, fun ds => l.length - (dI ds 0).toNat, ⟨0, (by unfold nAtN; rfl), Nat.zero_le _⟩, ?_⟩
  intro ρ2 ha2 _ hi3
  obtain ⟨j, hds, hj⟩ := hi3
  simp only [List.cons.injEq, Dt.z.injEq, Dt.l.injEq, b2i_eq_iff, and_true] at hds
  obtain ⟨k2_i27, k2_i28⟩ := hds
  have k2_l0 : ρ2.l 0 = _ := (ha2 0 (by decide)).2.2.symm.trans k1_l0
  have k2_i1 : ρ2.i 1 = _ := (ha2 1 (by decide)).1.symm.trans k1_i1
  have k2_i2 : ρ2.i 2 = _ := (ha2 2 (by decide)).1.symm.trans k1_i2
  have k2_i3 : ρ2.i 3 = _ := (ha2 3 (by decide)).1.symm.trans k1_i3
  have k2_i4 : ρ2.i 4 = _ := (ha2 4 (by decide)).1.symm.trans k1_i4
  have k2_i5 : ρ2.i 5 = _ := (ha2 5 (by decide)).1.symm.trans k1_i5
  have k2_i6 : ρ2.i 6 = _ := (ha2 6 (by decide)).1.symm.trans k1_i6
  have k2_i7 : ρ2.i 7 = _ := (ha2 7 (by decide)).1.symm.trans k1_i7
  have k2_i8 : ρ2.i 8 = _ := (ha2 8 (by decide)).1.symm.trans k1_i8
  have k2_i9 : ρ2.i 9 = _ := (ha2 9 (by decide)).1.symm.trans k1_i9
  have k2_i10 : ρ2.i 10 = _ := (ha2 10 (by decide)).1.symm.trans k1_i10
  have k2_i11 : ρ2.i 11 = _ := (ha2 11 (by decide)).1.symm.trans k1_i11
  have k2_i12 : ρ2.i 12 = _ := (ha2 12 (by decide)).1.symm.trans k1_i12
  have k2_i13 : ρ2.i 13 = _ := (ha2 13 (by decide)).1.symm.trans k1_i13
  have k2_i14 : ρ2.i 14 = _ := (ha2 14 (by decide)).1.symm.trans k1_i14
  have k2_i15 : ρ2.i 15 = _ := (ha2 15 (by decide)).1.symm.trans k1_i15
  have k2_i16 : ρ2.i 16 = _ := (ha2 16 (by decide)).1.symm.trans k1_i16
  have k2_i17 : ρ2.i 17 = _ := (ha2 17 (by decide)).1.symm.trans k1_i17
  have k2_i18 : ρ2.i 18 = _ := (ha2 18 (by decide)).1.symm.trans k1_i18
  have k2_i19 : ρ2.i 19 = _ := (ha2 19 (by decide)).1.symm.trans k1_i19
  have k2_i20 : ρ2.i 20 = _ := (ha2 20 (by decide)).1.symm.trans k1_i20
  have k2_i21 : ρ2.i 21 = _ := (ha2 21 (by decide)).1.symm.trans k1_i21
  have k2_i22 : ρ2.i 22 = _ := (ha2 22 (by decide)).1.symm.trans k1_i22
  have k2_i23 : ρ2.i 23 = _ := (ha2 23 (by decide)).1.symm.trans k1_i23
  have k2_i24 : ρ2.i 24 = _ := (ha2 24 (by decide)).1.symm.trans k1_i24
  have k2_b25 : ρ2.b 25 = _ := (ha2 25 (by decide)).2.1.symm.trans k1_b25
  have k2_i26 : ρ2.i 26 = _ := (ha2 26 (by decide)).1.symm.trans k1_i26
  simp only [k2_l0, k2_i1, k2_i2, k2_i3, k2_i4, k2_i5, k2_i6, k2_i7, k2_i8, k2_i9, k2_i10, k2_i11, k2_i12, k2_i13, k2_i14, k2_i15, k2_i16, k2_i17, k2_i18, k2_i19, k2_i20, k2_i21, k2_i22, k2_i23, k2_i24, k2_b25, k2_i26, k2_i27, k2_i28, spanAt_mk, spR_mk, -eq_self]
  refine ⟨fun c9 => ?_, fun c9 => ?_⟩
  refine ⟨fun c10 => ?_, fun c10 => ?_⟩
  · exact absurd (of_decide_eq_true c10) (by omega)
  refine ⟨fun c11 => ?_, fun c11 => ?_⟩
  · have hj2 : j < l.length := Int.ofNat_lt.1 (of_decide_eq_true c9)
    rw [addN hj2 hp]
    exact ⟨⟨j + 1, (by rw [nAtN_1 (s := l.getD i []) hj2 c11]), hj2⟩, by show l.length - (((j + 1 : Nat) : Int)).toNat < l.length - ((j : Int)).toNat; omega⟩
  refine ⟨fun c12 => ?_, fun c12 => ?_⟩
  · have hj2 : j < l.length := Int.ofNat_lt.1 (of_decide_eq_true c9)
    rw [addN hj2 hp]
    exact ⟨⟨j + 1, (by rw [nAtN_2 (s := l.getD i []) hj2 c12]), hj2⟩, by show l.length - (((j + 1 : Nat) : Int)).toNat < l.length - ((j : Int)).toNat; omega⟩
  · have hnl := nAtN_le l (l.getD i []) j
    have hj2 : j < l.length := Int.ofNat_lt.1 (of_decide_eq_true c9)
    rw [addN hj2 hp, addN (show nAtN l (l.getD i []) j < 31 by have hj3 : j < l.length := Int.ofNat_lt.1 (of_decide_eq_true c9); omega) (by decide)]
    exact ⟨⟨j + 1, (by rw [nAtN_3 (s := l.getD i []) hj2 c11 c12]), hj2⟩, by show l.length - (((j + 1 : Nat) : Int)).toNat < l.length - ((j : Int)).toNat; omega⟩
  · rw [addN hi2 hp, nAtN_end (fun h => of_decide_eq_false c9 (Int.ofNat_lt.2 h)), ← most_step]
    exact ⟨⟨i + 1, (by rw [any_step hi2, c4]; rfl), hi2⟩, by show l.length - (((i + 1 : Nat) : Int)).toNat < l.length - ((i : Int)).toNat; omega⟩
  refine ⟨fun c13 => ?_, fun c13 => ?_⟩
  refine ⟨fun c14 => ?_, fun c14 => ?_⟩
  intro e; (try simp only [e, Span.eta, Place.eta, P11.eta, spanAt_mk, spR_mk, kf_mk, nf_mk, -eq_self]); clear e
  · rfl
  refine ⟨fun c15 => ?_, fun c15 => ?_⟩
  intro e; (try simp only [e, Span.eta, Place.eta, P11.eta, spanAt_mk, spR_mk, kf_mk, nf_mk, -eq_self]); clear e
  · rfl
  intro e; (try simp only [e, Span.eta, Place.eta, P11.eta, spanAt_mk, spR_mk, kf_mk, nf_mk, -eq_self]); clear e
  refine ⟨fun c16 => ?_, fun c16 => ?_⟩
  intro e; (try simp only [e, Span.eta, Place.eta, P11.eta, spanAt_mk, spR_mk, kf_mk, nf_mk, -eq_self]); clear e
  · rfl
  · rw [any_end (fun h => of_decide_eq_false c2 (Int.ofNat_lt.2 h))] at c13
    rw [most_end (fun h => of_decide_eq_false c2 (Int.ofNat_lt.2 h)) hi] at c14 c15
    exact absurd (aSpl_few hA (fun q => by
      rcases q with ⟨q1, q2⟩ | q
      · exact absurd q2 (of_decide_eq_false c14)
      · exact absurd q (of_decide_eq_false c15))) (neI c16)
  refine ⟨fun c17 => ?_, fun c17 => ?_⟩
  intro e; (try simp only [e, Span.eta, Place.eta, P11.eta, spanAt_mk, spR_mk, kf_mk, nf_mk, -eq_self]); clear e
  · rfl
  intro e; (try simp only [e, Span.eta, Place.eta, P11.eta, spanAt_mk, spR_mk, kf_mk, nf_mk, -eq_self]); clear e
  refine ⟨fun c18 => ?_, fun c18 => ?_⟩
  intro e; (try simp only [e, Span.eta, Place.eta, P11.eta, spanAt_mk, spR_mk, kf_mk, nf_mk, -eq_self]); clear e
  · rfl
  · rw [any_end (fun h => of_decide_eq_false c2 (Int.ofNat_lt.2 h))] at c13
    rw [most_end (fun h => of_decide_eq_false c2 (Int.ofNat_lt.2 h)) hi] at c17
    exact absurd (aSpl_few hA (fun q => by
      rcases q with ⟨q1, q2⟩ | q
      · rw [c13] at q1; cases q1
      · exact absurd q (of_decide_eq_false c17))) (neI c18)
  intro e; (try simp only [e, Span.eta, Place.eta, P11.eta, spanAt_mk, spR_mk, kf_mk, nf_mk, -eq_self]); clear e
  · rfl
theorem sC_afew (xs : List Dt) (vals : List Value) (w : World) (hw : shRel w [.one (.sl [some .i64, some .i64, some .i64, none] 25)] xs vals) : Calls Try.prog 4 vals.toArray w fun e w' => ∃ v, e = .returned v ∧ RetOk [.one .bool] false w w' (sF_afew xs) v :=
  (fun_calls (by kernel_rfl) tysok_AlN (smc (sK_arun rfl rfl) (smc (sK_aspill rfl) (smc (sK_awakes rfl) sm0))) Try.func4 fn0 sR_afew (pre := fun _ => True) (fun x0 gx0 hp ρ g => sX_afew x0 gx0 ρ g) xs vals w hw trivial).2
set_option maxRecDepth 100000 in
set_option maxHeartbeats 8000000 in
theorem law_AllocFew {H : Type} {enc : TypeId × Value → H} {W : World} {r : Reach} {b0 : Nat} (v0 : Value) (k0 : Value.okWide Try.prog W r b0 22 v0) (d0 : DataW H) (p0 : List MemPlace) (h0 : DataW.Trod enc Try.prog W 0 (fun _ => true) true 22 v0 d0 p0) (_ : ∀ x ∈ p0, x.block < W.heap.size) :
    Calls Try.prog 4 #[v0] W fun e W' => e = .returned (.bool true) ∧ Below W.heap.size W W' := by
  obtain ⟨q0, s0, rfl, n0, m0, o0, l0⟩ := sl_of_arg rwSpan (by decide) Try.underlying22 k0 h0
  refine (sC_afew (.l q0 :: ([])) _ W ⟨_, _, _, rfl, ⟨_, _, rfl, rfl, n0, m0, o0, l0⟩, ⟨rfl, rfl⟩⟩).mono fun e W' ⟨v, he, hr⟩ => ?_
  have hv : v = .bool true := RetOk.says hr
  rw [he, hv]
  exact ⟨rfl, hr.ext⟩
end Go.Proofs.Ytoaffiooliclgaa
