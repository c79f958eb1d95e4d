/- The law AllocTurned. -/
import Derived.Test.YtoaffiooliclgaaAlL
import Derived.Test.YtoaffiooliclgaaSyQ
import Derived.Test.YtoaffiooliclgaaProg
import Derived.Laws.Externs
set_option linter.unusedVariables false
set_option linter.unusedSimpArgs false
namespace Go.Proofs.Ytoaffiooliclgaa
open Go.RowKit Go.ChangeShapes Go.WideShapes

theorem rwI64 : Rw Try.prog 3 [some .i64] := Rw.int .i64 Try.underlying3 (by kernel_rfl)
theorem rwBo : Rw Try.prog 4 [none] := Rw.bool Try.underlying4 (by kernel_rfl)
theorem rwSpan : Rw Try.prog 25 [some .i64, some .i64, some .i64, none] := Rw.struct (ks := [some .i64, some .i64, some .i64, none]) (RwSeq.cons (ks := [some .i64]) rwI64 (by rfl) (RwSeq.cons (ks := [some .i64]) rwI64 (by rfl) (RwSeq.cons (ks := [some .i64]) rwI64 (by rfl) (RwSeq.cons (ks := [none]) rwBo (by rfl) (RwSeq.nil _ _))))) Try.underlying25 (by kernel_rfl)
def tys_AlM : List (Nat × TI) := [(3, ⟨false, 1, [.int .i64 (.lit 0)], [], none, some .i64, false, false, none, 8, false, none, false, 0⟩),
 (4, ⟨false, 1, [.bool (.tt false)], [], none, none, false, true, none, 1, false, none, false, 0⟩),
 (22, ⟨false, 1, [.nsl], [], none, none, false, false, some 25, 24, false, none, false, 0⟩),
 (25, ⟨true, 4, [.int .i64 (.lit 0), .int .i64 (.lit 0), .int .i64 (.lit 0), .bool (.tt false)], [(0, 3), (1, 3), (2, 3), (3, 4)], none, none, true, false, none, 32, false, none, false, 0⟩),
 (26, ⟨false, 1, [.int .i8 (.lit 0)], [], none, some .i8, false, false, none, 1, false, none, false, 0⟩),
 (28, ⟨true, 2, [.int .i8 (.lit 0), .int .i8 (.lit 0)], [(0, 26), (1, 26)], none, none, true, false, none, 2, false, none, true, 0⟩),
 (29, ⟨true, 22, [.int .i8 (.lit 0), .int .i8 (.lit 0), .int .i8 (.lit 0), .int .i8 (.lit 0), .int .i8 (.lit 0), .int .i8 (.lit 0), .int .i8 (.lit 0), .int .i8 (.lit 0), .int .i8 (.lit 0), .int .i8 (.lit 0), .int .i8 (.lit 0), .int .i8 (.lit 0), .int .i8 (.lit 0), .int .i8 (.lit 0), .int .i8 (.lit 0), .int .i8 (.lit 0), .int .i8 (.lit 0), .int .i8 (.lit 0), .int .i8 (.lit 0), .int .i8 (.lit 0), .int .i8 (.lit 0), .int .i8 (.lit 0)], [], some (11, 28), none, true, false, none, 22, false, none, false, 0⟩),
 (30, ⟨false, 1, [.int .i64 (.lit 0)], [], none, some .i64, false, false, none, 8, false, none, false, 0⟩)]
set_option maxRecDepth 100000 in
theorem tysck_AlM : (tys_AlM.all fun p => ckTI Try.prog p.1 p.2) = true := by kernel_rfl
theorem tyseq_AlM : (tys_AlM.all fun p => !p.2.eqok || ((Nat.beq p.1 25 && kindsC p.2.zero z_Span) || (Nat.beq p.1 28 && kindsC p.2.zero z_Place) || (Nat.beq p.1 29 && kindsC p.2.zero z_P11))) = true := by kernel_rfl
theorem tyskn_AlM : (tys_AlM.all fun p => !p.2.keyok || ((Nat.beq p.1 28 && kindsC p.2.zero z_Place))) = true := by kernel_rfl
theorem tysok_AlM : ∀ t i, (t, i) ∈ tys_AlM → TIok Try.prog t i := by
  intro t i h
  refine TIok_of (all_at (f := ckTI Try.prog) tysck_AlM h) (fun he => ?_) (fun he => ?_) (fun he => ?_)
  · have h1 := List.all_eq_true.1 tyseq_AlM (t, i) h
    simp only [he, Bool.not_true, Bool.false_or, Bool.or_eq_true, Bool.and_eq_true] at h1
    rcases h1 with (h1 | h1) | h1
    · have hs := h1.2
      obtain rfl := Nat.eq_of_beq_eq_true h1.1
      exact fun vs us hv hu => eq_Span vs us (kindsV_of hs hv) (kindsV_of hs hu)
    · have hs := h1.2
      obtain rfl := Nat.eq_of_beq_eq_true h1.1
      exact fun vs us hv hu => eq_Place vs us (kindsV_of hs hv) (kindsV_of hs hu)
    · have hs := h1.2
      obtain rfl := Nat.eq_of_beq_eq_true h1.1
      exact fun vs us hv hu => eq_P11 vs us (kindsV_of hs hv) (kindsV_of hs hu)
  · have h1 := List.all_eq_true.1 tyseq_AlM (t, i) h
    simp only [he, Bool.not_true, Bool.false_or, Bool.or_eq_true, Bool.and_eq_true] at h1
    rcases h1 with (h1 | h1) | h1
    · have hs := h1.2
      obtain rfl := Nat.eq_of_beq_eq_true h1.1
      exact grd_Span
    · have hs := h1.2
      obtain rfl := Nat.eq_of_beq_eq_true h1.1
      exact grd_Place
    · have hs := h1.2
      obtain rfl := Nat.eq_of_beq_eq_true h1.1
      exact grd_P11
  · have h1 := List.all_eq_true.1 tyskn_AlM (t, i) h
    simp only [he, Bool.not_true, Bool.false_or, Bool.or_eq_true, Bool.and_eq_true] at h1
    have hs := h1.2
    obtain rfl := Nat.eq_of_beq_eq_true h1.1
    exact fun vs hv => key_Place vs (kindsV_of hs hv)
def sM_aturn (key : Nat) : Sm := ⟨3, key, [.one (.sl [some .i64, some .i64, some .i64, none] 25)], [.one .bool], false⟩
def sV_aturn (l : List (List Int)) : List Dt := [.z (b2i true)]
def sF_aturn : List Dt → List Dt
  | [.l x0] => sV_aturn x0
  | _ => []
def sT_aturn : Tr :=
(.br (.lt (.lit 30) (.len (.lvar 0)))
(.call 1 [.bool] .nil 1
(.leaf (.consb (.bvar 1) .nil)))
(.loop 0 1 [.int .i64, .list [some .i64, some .i64, some .i64, none]] (.cons (.bin .sub .i64 (.len (.lvar 0)) (.lit 1)) (.consl .lnil .nil))
(.br (.lt (.var 1) (.lit 0))
(.call 0 (kP11 ++ [.int .i64]) (.consl (.lvar 0) .nil) 3
(.call 0 (kP11 ++ [.int .i64]) (.consl (.lvar 2) .nil) 26
(.br (.eq (.var 25) (.var 48))
(.br (.beq (.and (.eq (.var 3) (.var 26)) (.and (.eq (.var 4) (.var 27)) (.and (.eq (.var 5) (.var 28)) (.and (.eq (.var 6) (.var 29)) (.and (.eq (.var 7) (.var 30)) (.and (.eq (.var 8) (.var 31)) (.and (.eq (.var 9) (.var 32)) (.and (.eq (.var 10) (.var 33)) (.and (.eq (.var 11) (.var 34)) (.and (.eq (.var 12) (.var 35)) (.and (.eq (.var 13) (.var 36)) (.and (.eq (.var 14) (.var 37)) (.and (.eq (.var 15) (.var 38)) (.and (.eq (.var 16) (.var 39)) (.and (.eq (.var 17) (.var 40)) (.and (.eq (.var 18) (.var 41)) (.and (.eq (.var 19) (.var 42)) (.and (.eq (.var 20) (.var 43)) (.and (.eq (.var 21) (.var 44)) (.and (.eq (.var 22) (.var 45)) (.and (.eq (.var 23) (.var 46)) (.and (.eq (.var 24) (.var 47)) (.tt true))))))))))))))))))))))) (.tt true))
(.loop 1 49 [.int .i64, .int .i64] (.cons (.lit 0) (.cons (.lit 0) .nil))
(.br (.lt (.var 49) (.lit 11))
(.br (.lt (.var 49) (.lit 0))
.panic
(.br (.eq (.nth (.var 49) (.cons (.var 3) (.cons (.var 5) (.cons (.var 7) (.cons (.var 9) (.cons (.var 11) (.cons (.var 13) (.cons (.var 15) (.cons (.var 17) (.cons (.var 19) (.cons (.var 21) (.cons (.var 23) .nil)))))))))))) (.lit 0))
(.next 1 (.cons (.bin .add .i64 (.var 49) (.lit 1)) (.cons (.var 50) .nil)))
(.next 1 (.cons (.bin .add .i64 (.var 49) (.lit 1)) (.cons (.bin .add .i64 (.var 50) (.lit 1)) .nil)))))
(.br (.eq (.var 25) (.lit 0))
(.br (.eq (.var 50) (.len (.lvar 0)))
(.call 1 [.bool] .nil 51
(.leaf (.consb (.bvar 51) .nil)))
(.leaf (.consb (.tt false) .nil)))
(.call 1 [.bool] .nil 51
(.leaf (.consb (.bvar 51) .nil))))))
(.leaf (.consb (.tt false) .nil)))
(.leaf (.consb (.tt false) .nil)))))
(.br (.lt (.var 1) (.len (.lvar 0)))
(.br (.lt (.len (.lvar 2)) (.lit 1073741824))
(.next 0 (.cons (.bin .sub .i64 (.var 1) (.lit 1)) (.consl (.lapp (.lvar 2) (.cons (.get (.lvar 0) (.var 1) 0) (.cons (.get (.lvar 0) (.var 1) 1) (.cons (.get (.lvar 0) (.var 1) 2) (.consb (.getb (.lvar 0) (.var 1) 3) .nil))))) .nil)))
.panic)
.panic))))
def sP_aturn : Spec := ⟨fun k => match k with | 0 => sF_arun | 1 => sF_awakes | _ => fun _ => [], fun k => match k with | 0 => sQ_arun | _ => fun _ => True⟩
set_option maxRecDepth 100000 in
theorem sR_aturn : treeIs tys_AlM [sM_arun 0, sM_awakes 1] [] [(5, [.tmpI 4 .i64, .tmpS 3 [some .i64, some .i64, some .i64, none] 25, .top 18, .top 19, .top 22, .top 23, .top 24, .top 25, .top 26, .top 27, .top 28, .top 20, .top 21]), (14, [.tmpI 47 .i64, .tmpI 9 .i64, .top 48, .top 49, .top 10, .top 50, .top 51, .top 52, .top 53, .top 54, .top 55, .top 56, .top 57]), (999999, [])] [] 200 Try.f3 [.one (.sl [some .i64, some .i64, some .i64, none] 25)] [.one .bool] false [.list [some .i64, some .i64, some .i64, none]] sT_aturn := ⟨by kernel_rfl, by kernel_rfl, by kernel_rfl⟩
set_option maxRecDepth 100000 in
set_option maxHeartbeats 8000000 in
theorem sX_aturn (l : List (List Int)) (hl : RowsIn [some .i64, some .i64, some .i64, none] l) (ρ : Env) (g : varsD ρ 0 [.list [some .i64, some .i64, some .i64, none]] = [.l l]) : sT_aturn.asks sP_aturn (fun ρ e => e.D ρ = sF_aturn [.l l]) ρ fun _ _ => False := by
  have keepg := g
  simp only [varsD, varD, List.cons.injEq, Dt.z.injEq, Dt.l.injEq, b2i_eq_iff, Nat.reduceAdd, and_true] at g
  simp only [sT_aturn, sP_aturn, kP11, sF_arun, sF_awakes, sV_arun, sF_aturn, sV_aturn, sQ_arun, Tr.asks, upd_same, okDs, okD, eqs, E.I, E.B, E.L, E.R, E.D, E.vs, dI, dB, dL, varD, varsD, List.getElem?_cons_zero, List.getElem?_cons_succ, List.cons_append, List.nil_append, Nat.zero_add, Nat.add_zero, Nat.reduceAdd, and_true, true_and, b2i_one, -eq_self, Span.eta, Place.eta, P11.eta, spanAt_mk, spR_mk, kf_mk, nf_mk, g]
  have k0_l0 := g
  refine ⟨fun c0 => ?_, fun c0 => ?_⟩
  intro e; (try simp only [e, Span.eta, Place.eta, P11.eta, spanAt_mk, spR_mk, kf_mk, nf_mk, -eq_self]); clear e
  · rfl
  have hp : l.length ≤ maxLen := (Nat.le_trans (Nat.not_lt.1 fun h => of_decide_eq_false c0 (by omega)) (by decide : 30 ≤ maxLen))
  have h30 : l.length ≤ 30 := Nat.not_lt.1 fun h => of_decide_eq_false c0 (by omega)
  rw [show opI .sub .i64 (l.length : Int) 1 = (l.length : Int) - 1 from subZ (by omega)]
  refine ⟨fun ds => ∃ n : Nat, ds = [.z ((l.length : Int) - 1 - (n : Int)), .l (l.reverse.take n)] ∧ n ≤ l.length, fun ds => (dI ds 0 + 1).toNat, ⟨0, by simp, Nat.zero_le _⟩, ?_⟩
  intro ρ1 ha1 _ hi1
  obtain ⟨n, hds, hn⟩ := hi1
  simp only [List.cons.injEq, Dt.z.injEq, Dt.l.injEq, b2i_eq_iff, and_true] at hds
  obtain ⟨k1_i1, k1_l2⟩ := hds
  have k1_l0 : ρ1.l 0 = _ := (ha1 0 (by decide)).2.2.symm.trans k0_l0
  simp only [k1_l0, k1_i1, k1_l2, spanAt_mk, spR_mk, -eq_self]
  refine ⟨fun c1 => ?_, fun c1 => ?_⟩
  refine ⟨?_, ?_⟩
  · first | exact hp | exact Nat.le_trans (by simp; omega) hp
  intro e; have qe := e; obtain ⟨k1_i3, k1_i4, k1_i5, k1_i6, k1_i7, k1_i8, k1_i9, k1_i10, k1_i11, k1_i12, k1_i13, k1_i14, k1_i15, k1_i16, k1_i17, k1_i18, k1_i19, k1_i20, k1_i21, k1_i22, k1_i23, k1_i24, k1_i25⟩ := qe; (try simp only [e, Span.eta, Place.eta, P11.eta, spanAt_mk, spR_mk, kf_mk, nf_mk, -eq_self]); clear e
  refine ⟨?_, ?_⟩
  · first | exact hp | exact Nat.le_trans (by simp; omega) hp
  intro e; (try simp only [e, Span.eta, Place.eta, P11.eta, spanAt_mk, spR_mk, kf_mk, nf_mk, -eq_self]); clear e
  refine ⟨fun c2 => ?_, fun c2 => ?_⟩
  refine ⟨fun c3 => ?_, fun c3 => ?_⟩
  have hra : aRun l = aRun (l.reverse.take n) := rev_all (fun h => by have := of_decide_eq_true c1; omega) hn
  refine ⟨fun ds => ∃ i : Nat, ds = [.z (i : Int), .z ((gotN (kf (aRun l).1) i : Nat) : Int)] ∧ i ≤ 11, fun ds => 11 - (dI ds 0).toNat, ⟨0, rfl, Nat.zero_le _⟩, ?_⟩
  intro ρ2 ha2 _ hi2
  obtain ⟨i, hds, hi⟩ := hi2
  simp only [List.cons.injEq, Dt.z.injEq, Dt.l.injEq, b2i_eq_iff, and_true] at hds
  obtain ⟨k2_i49, k2_i50⟩ := hds
  have k2_l0 : ρ2.l 0 = _ := (ha2 0 (by decide)).2.2.symm.trans k1_l0
  have k2_i3 : ρ2.i 3 = _ := (ha2 3 (by decide)).1.symm.trans k1_i3
  have k2_i4 : ρ2.i 4 = _ := (ha2 4 (by decide)).1.symm.trans k1_i4
  have k2_i5 : ρ2.i 5 = _ := (ha2 5 (by decide)).1.symm.trans k1_i5
  have k2_i6 : ρ2.i 6 = _ := (ha2 6 (by decide)).1.symm.trans k1_i6
  have k2_i7 : ρ2.i 7 = _ := (ha2 7 (by decide)).1.symm.trans k1_i7
  have k2_i8 : ρ2.i 8 = _ := (ha2 8 (by decide)).1.symm.trans k1_i8
  have k2_i9 : ρ2.i 9 = _ := (ha2 9 (by decide)).1.symm.trans k1_i9
  have k2_i10 : ρ2.i 10 = _ := (ha2 10 (by decide)).1.symm.trans k1_i10
  have k2_i11 : ρ2.i 11 = _ := (ha2 11 (by decide)).1.symm.trans k1_i11
  have k2_i12 : ρ2.i 12 = _ := (ha2 12 (by decide)).1.symm.trans k1_i12
  have k2_i13 : ρ2.i 13 = _ := (ha2 13 (by decide)).1.symm.trans k1_i13
  have k2_i14 : ρ2.i 14 = _ := (ha2 14 (by decide)).1.symm.trans k1_i14
  have k2_i15 : ρ2.i 15 = _ := (ha2 15 (by decide)).1.symm.trans k1_i15
  have k2_i16 : ρ2.i 16 = _ := (ha2 16 (by decide)).1.symm.trans k1_i16
  have k2_i17 : ρ2.i 17 = _ := (ha2 17 (by decide)).1.symm.trans k1_i17
  have k2_i18 : ρ2.i 18 = _ := (ha2 18 (by decide)).1.symm.trans k1_i18
  have k2_i19 : ρ2.i 19 = _ := (ha2 19 (by decide)).1.symm.trans k1_i19
  have k2_i20 : ρ2.i 20 = _ := (ha2 20 (by decide)).1.symm.trans k1_i20
  have k2_i21 : ρ2.i 21 = _ := (ha2 21 (by decide)).1.symm.trans k1_i21
  have k2_i22 : ρ2.i 22 = _ := (ha2 22 (by decide)).1.symm.trans k1_i22
  have k2_i23 : ρ2.i 23 = _ := (ha2 23 (by decide)).1.symm.trans k1_i23
  have k2_i24 : ρ2.i 24 = _ := (ha2 24 (by decide)).1.symm.trans k1_i24
  have k2_i25 : ρ2.i 25 = _ := (ha2 25 (by decide)).1.symm.trans k1_i25
  simp only [k2_l0, k2_i3, k2_i4, k2_i5, k2_i6, k2_i7, k2_i8, k2_i9, k2_i10, k2_i11, k2_i12, k2_i13, k2_i14, k2_i15, k2_i16, k2_i17, k2_i18, k2_i19, k2_i20, k2_i21, k2_i22, k2_i23, k2_i24, k2_i25, k2_i49, k2_i50, spanAt_mk, spR_mk, kf_mk, nf_mk, Int.toNat_natCast, -eq_self]
  refine ⟨fun c4 => ?_, fun c4 => ?_⟩
  refine ⟨fun c5 => ?_, fun c5 => ?_⟩
  · exact absurd (of_decide_eq_true c5) (by omega)
  refine ⟨fun c6 => ?_, fun c6 => ?_⟩
  · rw [addN (show i < 11 by have h := of_decide_eq_true c4; omega) (by decide)]
    exact ⟨⟨i + 1, by rw [got_y c6], (show i < 11 by have h := of_decide_eq_true c4; omega)⟩, by have hi0 := (show i < 11 by have h := of_decide_eq_true c4; omega); show 11 - (((i + 1 : Nat) : Int)).toNat < 11 - ((i : Int)).toNat; omega⟩
  · have hgl := got_le (kf (aRun l).1) i
    rw [addN (show i < 11 by have h := of_decide_eq_true c4; omega) (by decide), addN (show gotN (kf (aRun l).1) i < 12 by omega) (by decide)]
    exact ⟨⟨i + 1, by rw [got_n c6], (show i < 11 by have h := of_decide_eq_true c4; omega)⟩, by have hi0 := (show i < 11 by have h := of_decide_eq_true c4; omega); show 11 - (((i + 1 : Nat) : Int)).toNat < 11 - ((i : Int)).toNat; omega⟩
  refine ⟨fun c7 => ?_, fun c7 => ?_⟩
  refine ⟨fun c8 => ?_, fun c8 => ?_⟩
  intro e; (try simp only [e, Span.eta, Place.eta, P11.eta, spanAt_mk, spR_mk, kf_mk, nf_mk, -eq_self]); clear e
  · rfl
  · have h11 : i = 11 := by have := of_decide_eq_false c4; omega
    rw [h11] at c8
    exact absurd (congrArg Int.ofNat (got_run (aRun_ok.1 (eqI c7)))) (neI c8)
  intro e; (try simp only [e, Span.eta, Place.eta, P11.eta, spanAt_mk, spR_mk, kf_mk, nf_mk, -eq_self]); clear e
  · rfl
  · have hra : aRun l = aRun (l.reverse.take n) := rev_all (fun h => by have := of_decide_eq_true c1; omega) hn
    rw [hra] at c3
    simp at c3
  · have hra : aRun l = aRun (l.reverse.take n) := rev_all (fun h => by have := of_decide_eq_true c1; omega) hn
    exact absurd (by rw [hra]) (neI c2)
  refine ⟨fun c9 => ?_, fun c9 => ?_⟩
  refine ⟨fun c10 => ?_, fun c10 => ?_⟩
  · obtain ⟨k, hk⟩ : ∃ k : Nat, (l.length : Int) - 1 - (n : Int) = (k : Int) := ⟨l.length - 1 - n, by have := of_decide_eq_false c1; omega⟩
    have hn2 : n < l.length := by omega
    have hk2 : k < l.length := by omega
    rw [hk]
    rw [show opI .sub .i64 (k : Int) 1 = (k : Int) - 1 from subZ (by omega), span_at hl hk2, rev_step hn2 hk]
    exact ⟨⟨n + 1, by rw [show (k : Int) - 1 = (l.length : Int) - 1 - ((n + 1 : Nat) : Int) by omega], hn2⟩, by show ((k : Int) - 1 + 1).toNat < ((k : Int) + 1).toNat; omega⟩
  · have := h30
    exact absurd (of_decide_eq_false c10) (by simp; omega)
  · exact absurd (of_decide_eq_false c9) (by omega)
theorem sC_aturn (xs : List Dt) (vals : List Value) (w : World) (hw : shRel w [.one (.sl [some .i64, some .i64, some .i64, none] 25)] xs vals) : Calls Try.prog 3 vals.toArray w fun e w' => ∃ v, e = .returned v ∧ RetOk [.one .bool] false w w' (sF_aturn xs) v :=
  (fun_calls (by kernel_rfl) tysok_AlM (smc (sK_arun rfl rfl) (smc (sK_awakes rfl) sm0)) Try.func3 fn0 sR_aturn (pre := fun _ => True) (fun x0 gx0 hp ρ g => sX_aturn x0 gx0 ρ g) xs vals w hw trivial).2
set_option maxRecDepth 100000 in
set_option maxHeartbeats 8000000 in
theorem law_AllocTurned {H : Type} {enc : TypeId × Value → H} {W : World} {r : Reach} {b0 : Nat} (v0 : Value) (k0 : Value.okWide Try.prog W r b0 22 v0) (d0 : DataW H) (p0 : List MemPlace) (h0 : DataW.Trod enc Try.prog W 0 (fun _ => true) true 22 v0 d0 p0) (_ : ∀ x ∈ p0, x.block < W.heap.size) :
    Calls Try.prog 3 #[v0] W fun e W' => e = .returned (.bool true) ∧ Below W.heap.size W W' := by
  obtain ⟨q0, s0, rfl, n0, m0, o0, l0⟩ := sl_of_arg rwSpan (by decide) Try.underlying22 k0 h0
  refine (sC_aturn (.l q0 :: ([])) _ W ⟨_, _, _, rfl, ⟨_, _, rfl, rfl, n0, m0, o0, l0⟩, ⟨rfl, rfl⟩⟩).mono fun e W' ⟨v, he, hr⟩ => ?_
  have hv : v = .bool true := RetOk.says hr
  rw [he, hv]
  exact ⟨rfl, hr.ext⟩
end Go.Proofs.Ytoaffiooliclgaa
