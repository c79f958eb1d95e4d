/- The law AllocLets. -/
import Derived.Test.YtoaffiooliclgaaAlL
import Derived.Test.YtoaffiooliclgaaSyQ
import Derived.Test.YtoaffiooliclgaaProg
import Derived.Laws.Externs
set_option linter.unusedVariables false
set_option linter.unusedSimpArgs false
namespace Go.Proofs.Ytoaffiooliclgaa
open Go.RowKit Go.ChangeShapes Go.WideShapes

theorem rwI64 : Rw Try.prog 3 [some .i64] := Rw.int .i64 Try.underlying3 (by kernel_rfl)
theorem rwBo : Rw Try.prog 4 [none] := Rw.bool Try.underlying4 (by kernel_rfl)
theorem rwSpan : Rw Try.prog 25 [some .i64, some .i64, some .i64, none] := Rw.struct (ks := [some .i64, some .i64, some .i64, none]) (RwSeq.cons (ks := [some .i64]) rwI64 (by rfl) (RwSeq.cons (ks := [some .i64]) rwI64 (by rfl) (RwSeq.cons (ks := [some .i64]) rwI64 (by rfl) (RwSeq.cons (ks := [none]) rwBo (by rfl) (RwSeq.nil _ _))))) Try.underlying25 (by kernel_rfl)
def tys_AlO : List (Nat × TI) := [(3, ⟨false, 1, [.int .i64 (.lit 0)], [], none, some .i64, false, false, none, 8, false, none, false, 0⟩),
 (4, ⟨false, 1, [.bool (.tt false)], [], none, none, false, true, none, 1, false, none, false, 0⟩),
 (22, ⟨false, 1, [.nsl], [], none, none, false, false, some 25, 24, false, none, false, 0⟩),
 (25, ⟨true, 4, [.int .i64 (.lit 0), .int .i64 (.lit 0), .int .i64 (.lit 0), .bool (.tt false)], [(0, 3), (1, 3), (2, 3), (3, 4)], none, none, true, false, none, 32, false, none, false, 0⟩),
 (26, ⟨false, 1, [.int .i8 (.lit 0)], [], none, some .i8, false, false, none, 1, false, none, false, 0⟩),
 (28, ⟨true, 2, [.int .i8 (.lit 0), .int .i8 (.lit 0)], [(0, 26), (1, 26)], none, none, true, false, none, 2, false, none, true, 0⟩),
 (29, ⟨true, 22, [.int .i8 (.lit 0), .int .i8 (.lit 0), .int .i8 (.lit 0), .int .i8 (.lit 0), .int .i8 (.lit 0), .int .i8 (.lit 0), .int .i8 (.lit 0), .int .i8 (.lit 0), .int .i8 (.lit 0), .int .i8 (.lit 0), .int .i8 (.lit 0), .int .i8 (.lit 0), .int .i8 (.lit 0), .int .i8 (.lit 0), .int .i8 (.lit 0), .int .i8 (.lit 0), .int .i8 (.lit 0), .int .i8 (.lit 0), .int .i8 (.lit 0), .int .i8 (.lit 0), .int .i8 (.lit 0), .int .i8 (.lit 0)], [], some (11, 28), none, true, false, none, 22, false, none, false, 0⟩),
 (30, ⟨false, 1, [.int .i64 (.lit 0)], [], none, some .i64, false, false, none, 8, false, none, false, 0⟩)]
set_option maxRecDepth 100000 in
theorem tysck_AlO : (tys_AlO.all fun p => ckTI Try.prog p.1 p.2) = true := by kernel_rfl
theorem tyseq_AlO : (tys_AlO.all fun p => !p.2.eqok || ((Nat.beq p.1 25 && kindsC p.2.zero z_Span) || (Nat.beq p.1 28 && kindsC p.2.zero z_Place) || (Nat.beq p.1 29 && kindsC p.2.zero z_P11))) = true := by kernel_rfl
theorem tyskn_AlO : (tys_AlO.all fun p => !p.2.keyok || ((Nat.beq p.1 28 && kindsC p.2.zero z_Place))) = true := by kernel_rfl
theorem tysok_AlO : ∀ t i, (t, i) ∈ tys_AlO → TIok Try.prog t i := by
  intro t i h
  refine TIok_of (all_at (f := ckTI Try.prog) tysck_AlO h) (fun he => ?_) (fun he => ?_) (fun he => ?_)
  · have h1 := List.all_eq_true.1 tyseq_AlO (t, i) h
    simp only [he, Bool.not_true, Bool.false_or, Bool.or_eq_true, Bool.and_eq_true] at h1
    rcases h1 with (h1 | h1) | h1
    · have hs := h1.2
      obtain rfl := Nat.eq_of_beq_eq_true h1.1
      exact fun vs us hv hu => eq_Span vs us (kindsV_of hs hv) (kindsV_of hs hu)
    · have hs := h1.2
      obtain rfl := Nat.eq_of_beq_eq_true h1.1
      exact fun vs us hv hu => eq_Place vs us (kindsV_of hs hv) (kindsV_of hs hu)
    · have hs := h1.2
      obtain rfl := Nat.eq_of_beq_eq_true h1.1
      exact fun vs us hv hu => eq_P11 vs us (kindsV_of hs hv) (kindsV_of hs hu)
  · have h1 := List.all_eq_true.1 tyseq_AlO (t, i) h
    simp only [he, Bool.not_true, Bool.false_or, Bool.or_eq_true, Bool.and_eq_true] at h1
    rcases h1 with (h1 | h1) | h1
    · have hs := h1.2
      obtain rfl := Nat.eq_of_beq_eq_true h1.1
      exact grd_Span
    · have hs := h1.2
      obtain rfl := Nat.eq_of_beq_eq_true h1.1
      exact grd_Place
    · have hs := h1.2
      obtain rfl := Nat.eq_of_beq_eq_true h1.1
      exact grd_P11
  · have h1 := List.all_eq_true.1 tyskn_AlO (t, i) h
    simp only [he, Bool.not_true, Bool.false_or, Bool.or_eq_true, Bool.and_eq_true] at h1
    have hs := h1.2
    obtain rfl := Nat.eq_of_beq_eq_true h1.1
    exact fun vs hv => key_Place vs (kindsV_of hs hv)
def sM_alets (key : Nat) : Sm := ⟨5, key, [.one (.sl [some .i64, some .i64, some .i64, none] 25)], [.one .bool], false⟩
def sV_alets (l : List (List Int)) : List Dt := [.z (b2i true)]
def sF_alets : List Dt → List Dt
  | [.l x0] => sV_alets x0
  | _ => []
set_option maxRecDepth 100000 in
def sT_alets : Tr :=
(.br (.lt (.lit 30) (.len (.lvar 0)))
(.call 4 [.bool] .nil 1
(.leaf (.consb (.bvar 1) .nil)))
(.call 0 (kP11 ++ [.int .i64]) (.consl (.lvar 0) .nil) 1
(.br (.eq (.var 23) (.lit 0))
(.call 1 [.bool] (.consl (.lvar 0) (.vs 1 22 .nil)) 24
(.br (.bvar 24)
(.call 2 [.bool] (.vs 1 22 .nil) 25
(.br (.bvar 25)
(.loop 0 26 [.int .i64] (.cons (.lit 0) .nil)
(.br (.lt (.var 26) (.len (.lvar 0)))
(.br (.lt (.var 26) (.lit 0))
.panic
(.br (.lt (.get (.lvar 0) (.var 26) 0) (.lit 0))
(.leaf (.consb (.tt false) .nil))
(.br (.lt (.get (.lvar 0) (.var 26) 0) (.lit 11))
(.br (.eq (.nth (.get (.lvar 0) (.var 26) 0) (.cons (.var 1) (.cons (.var 3) (.cons (.var 5) (.cons (.var 7) (.cons (.var 9) (.cons (.var 11) (.cons (.var 13) (.cons (.var 15) (.cons (.var 17) (.cons (.var 19) (.cons (.var 21) .nil)))))))))))) (.lit 0))
(.leaf (.consb (.tt false) .nil))
(.br (.eq (.nth (.get (.lvar 0) (.var 26) 0) (.cons (.var 1) (.cons (.var 3) (.cons (.var 5) (.cons (.var 7) (.cons (.var 9) (.cons (.var 11) (.cons (.var 13) (.cons (.var 15) (.cons (.var 17) (.cons (.var 19) (.cons (.var 21) .nil)))))))))))) (.lit 1))
(.br (.getb (.lvar 0) (.var 26) 3)
(.br (.eq (.nth (.get (.lvar 0) (.var 26) 0) (.cons (.var 2) (.cons (.var 4) (.cons (.var 6) (.cons (.var 8) (.cons (.var 10) (.cons (.var 12) (.cons (.var 14) (.cons (.var 16) (.cons (.var 18) (.cons (.var 20) (.cons (.var 22) .nil)))))))))))) (.lit 3))
(.br (.lt (.len (.lvar 0)) (.var 26))
.panic
(.loop 1 27 [.int .i64] (.cons (.lit 0) .nil)
(.br (.lt (.var 27) (.len (.ltake (.lvar 0) (.var 26))))
(.br (.lt (.var 27) (.lit 0))
.panic
(.br (.lt (.var 27) (.len (.lvar 0)))
(.br (.lt (.get (.lvar 0) (.var 27) 0) (.lit 0))
.panic
(.br (.lt (.get (.lvar 0) (.var 27) 0) (.lit 11))
(.br (.eq (.nth (.get (.lvar 0) (.var 27) 0) (.cons (.var 1) (.cons (.var 3) (.cons (.var 5) (.cons (.var 7) (.cons (.var 9) (.cons (.var 11) (.cons (.var 13) (.cons (.var 15) (.cons (.var 17) (.cons (.var 19) (.cons (.var 21) .nil)))))))))))) (.nth (.get (.lvar 0) (.var 26) 0) (.cons (.var 1) (.cons (.var 3) (.cons (.var 5) (.cons (.var 7) (.cons (.var 9) (.cons (.var 11) (.cons (.var 13) (.cons (.var 15) (.cons (.var 17) (.cons (.var 19) (.cons (.var 21) .nil)))))))))))))
(.br (.eq (.nth (.get (.lvar 0) (.var 27) 0) (.cons (.var 2) (.cons (.var 4) (.cons (.var 6) (.cons (.var 8) (.cons (.var 10) (.cons (.var 12) (.cons (.var 14) (.cons (.var 16) (.cons (.var 18) (.cons (.var 20) (.cons (.var 22) .nil)))))))))))) (.nth (.get (.lvar 0) (.var 26) 0) (.cons (.var 2) (.cons (.var 4) (.cons (.var 6) (.cons (.var 8) (.cons (.var 10) (.cons (.var 12) (.cons (.var 14) (.cons (.var 16) (.cons (.var 18) (.cons (.var 20) (.cons (.var 22) .nil)))))))))))))
(.br (.lt (.get (.lvar 0) (.var 26) 2) (.get (.lvar 0) (.var 27) 1))
(.next 1 (.cons (.bin .add .i64 (.var 27) (.lit 1)) .nil))
(.br (.lt (.get (.lvar 0) (.var 27) 2) (.get (.lvar 0) (.var 26) 1))
(.next 1 (.cons (.bin .add .i64 (.var 27) (.lit 1)) .nil))
(.leaf (.consb (.tt false) .nil))))
(.next 1 (.cons (.bin .add .i64 (.var 27) (.lit 1)) .nil)))
(.next 1 (.cons (.bin .add .i64 (.var 27) (.lit 1)) .nil)))
.panic))
(.stuck 54)))
(.next 0 (.cons (.bin .add .i64 (.var 26) (.lit 1)) .nil)))))
(.br (.eq (.nth (.get (.lvar 0) (.var 26) 0) (.cons (.var 2) (.cons (.var 4) (.cons (.var 6) (.cons (.var 8) (.cons (.var 10) (.cons (.var 12) (.cons (.var 14) (.cons (.var 16) (.cons (.var 18) (.cons (.var 20) (.cons (.var 22) .nil)))))))))))) (.lit 9))
(.br (.lt (.len (.lvar 0)) (.var 26))
.panic
(.loop 1 27 [.int .i64] (.cons (.lit 0) .nil)
(.br (.lt (.var 27) (.len (.ltake (.lvar 0) (.var 26))))
(.br (.lt (.var 27) (.lit 0))
.panic
(.br (.lt (.var 27) (.len (.lvar 0)))
(.br (.lt (.get (.lvar 0) (.var 27) 0) (.lit 0))
.panic
(.br (.lt (.get (.lvar 0) (.var 27) 0) (.lit 11))
(.br (.eq (.nth (.get (.lvar 0) (.var 27) 0) (.cons (.var 1) (.cons (.var 3) (.cons (.var 5) (.cons (.var 7) (.cons (.var 9) (.cons (.var 11) (.cons (.var 13) (.cons (.var 15) (.cons (.var 17) (.cons (.var 19) (.cons (.var 21) .nil)))))))))))) (.nth (.get (.lvar 0) (.var 26) 0) (.cons (.var 1) (.cons (.var 3) (.cons (.var 5) (.cons (.var 7) (.cons (.var 9) (.cons (.var 11) (.cons (.var 13) (.cons (.var 15) (.cons (.var 17) (.cons (.var 19) (.cons (.var 21) .nil)))))))))))))
(.br (.eq (.nth (.get (.lvar 0) (.var 27) 0) (.cons (.var 2) (.cons (.var 4) (.cons (.var 6) (.cons (.var 8) (.cons (.var 10) (.cons (.var 12) (.cons (.var 14) (.cons (.var 16) (.cons (.var 18) (.cons (.var 20) (.cons (.var 22) .nil)))))))))))) (.nth (.get (.lvar 0) (.var 26) 0) (.cons (.var 2) (.cons (.var 4) (.cons (.var 6) (.cons (.var 8) (.cons (.var 10) (.cons (.var 12) (.cons (.var 14) (.cons (.var 16) (.cons (.var 18) (.cons (.var 20) (.cons (.var 22) .nil)))))))))))))
(.br (.lt (.get (.lvar 0) (.var 26) 2) (.get (.lvar 0) (.var 27) 1))
(.next 1 (.cons (.bin .add .i64 (.var 27) (.lit 1)) .nil))
(.br (.lt (.get (.lvar 0) (.var 27) 2) (.get (.lvar 0) (.var 26) 1))
(.next 1 (.cons (.bin .add .i64 (.var 27) (.lit 1)) .nil))
(.leaf (.consb (.tt false) .nil))))
(.next 1 (.cons (.bin .add .i64 (.var 27) (.lit 1)) .nil)))
(.next 1 (.cons (.bin .add .i64 (.var 27) (.lit 1)) .nil)))
.panic))
(.stuck 54)))
(.next 0 (.cons (.bin .add .i64 (.var 26) (.lit 1)) .nil)))))
(.leaf (.consb (.tt false) .nil))))
(.br (.lt (.len (.lvar 0)) (.var 26))
.panic
(.loop 1 27 [.int .i64] (.cons (.lit 0) .nil)
(.br (.lt (.var 27) (.len (.ltake (.lvar 0) (.var 26))))
(.br (.lt (.var 27) (.lit 0))
.panic
(.br (.lt (.var 27) (.len (.lvar 0)))
(.br (.lt (.get (.lvar 0) (.var 27) 0) (.lit 0))
.panic
(.br (.lt (.get (.lvar 0) (.var 27) 0) (.lit 11))
(.br (.eq (.nth (.get (.lvar 0) (.var 27) 0) (.cons (.var 1) (.cons (.var 3) (.cons (.var 5) (.cons (.var 7) (.cons (.var 9) (.cons (.var 11) (.cons (.var 13) (.cons (.var 15) (.cons (.var 17) (.cons (.var 19) (.cons (.var 21) .nil)))))))))))) (.nth (.get (.lvar 0) (.var 26) 0) (.cons (.var 1) (.cons (.var 3) (.cons (.var 5) (.cons (.var 7) (.cons (.var 9) (.cons (.var 11) (.cons (.var 13) (.cons (.var 15) (.cons (.var 17) (.cons (.var 19) (.cons (.var 21) .nil)))))))))))))
(.br (.eq (.nth (.get (.lvar 0) (.var 27) 0) (.cons (.var 2) (.cons (.var 4) (.cons (.var 6) (.cons (.var 8) (.cons (.var 10) (.cons (.var 12) (.cons (.var 14) (.cons (.var 16) (.cons (.var 18) (.cons (.var 20) (.cons (.var 22) .nil)))))))))))) (.nth (.get (.lvar 0) (.var 26) 0) (.cons (.var 2) (.cons (.var 4) (.cons (.var 6) (.cons (.var 8) (.cons (.var 10) (.cons (.var 12) (.cons (.var 14) (.cons (.var 16) (.cons (.var 18) (.cons (.var 20) (.cons (.var 22) .nil)))))))))))))
(.br (.lt (.get (.lvar 0) (.var 26) 2) (.get (.lvar 0) (.var 27) 1))
(.next 1 (.cons (.bin .add .i64 (.var 27) (.lit 1)) .nil))
(.br (.lt (.get (.lvar 0) (.var 27) 2) (.get (.lvar 0) (.var 26) 1))
(.next 1 (.cons (.bin .add .i64 (.var 27) (.lit 1)) .nil))
(.leaf (.consb (.tt false) .nil))))
(.next 1 (.cons (.bin .add .i64 (.var 27) (.lit 1)) .nil)))
(.next 1 (.cons (.bin .add .i64 (.var 27) (.lit 1)) .nil)))
.panic))
(.stuck 54)))
(.next 0 (.cons (.bin .add .i64 (.var 26) (.lit 1)) .nil))))))
(.br (.lt (.len (.lvar 0)) (.var 26))
.panic
(.loop 1 27 [.int .i64] (.cons (.lit 0) .nil)
(.br (.lt (.var 27) (.len (.ltake (.lvar 0) (.var 26))))
(.br (.lt (.var 27) (.lit 0))
.panic
(.br (.lt (.var 27) (.len (.lvar 0)))
(.br (.lt (.get (.lvar 0) (.var 27) 0) (.lit 0))
.panic
(.br (.lt (.get (.lvar 0) (.var 27) 0) (.lit 11))
(.br (.eq (.nth (.get (.lvar 0) (.var 27) 0) (.cons (.var 1) (.cons (.var 3) (.cons (.var 5) (.cons (.var 7) (.cons (.var 9) (.cons (.var 11) (.cons (.var 13) (.cons (.var 15) (.cons (.var 17) (.cons (.var 19) (.cons (.var 21) .nil)))))))))))) (.nth (.get (.lvar 0) (.var 26) 0) (.cons (.var 1) (.cons (.var 3) (.cons (.var 5) (.cons (.var 7) (.cons (.var 9) (.cons (.var 11) (.cons (.var 13) (.cons (.var 15) (.cons (.var 17) (.cons (.var 19) (.cons (.var 21) .nil)))))))))))))
(.br (.eq (.nth (.get (.lvar 0) (.var 27) 0) (.cons (.var 2) (.cons (.var 4) (.cons (.var 6) (.cons (.var 8) (.cons (.var 10) (.cons (.var 12) (.cons (.var 14) (.cons (.var 16) (.cons (.var 18) (.cons (.var 20) (.cons (.var 22) .nil)))))))))))) (.nth (.get (.lvar 0) (.var 26) 0) (.cons (.var 2) (.cons (.var 4) (.cons (.var 6) (.cons (.var 8) (.cons (.var 10) (.cons (.var 12) (.cons (.var 14) (.cons (.var 16) (.cons (.var 18) (.cons (.var 20) (.cons (.var 22) .nil)))))))))))))
(.br (.lt (.get (.lvar 0) (.var 26) 2) (.get (.lvar 0) (.var 27) 1))
(.next 1 (.cons (.bin .add .i64 (.var 27) (.lit 1)) .nil))
(.br (.lt (.get (.lvar 0) (.var 27) 2) (.get (.lvar 0) (.var 26) 1))
(.next 1 (.cons (.bin .add .i64 (.var 27) (.lit 1)) .nil))
(.leaf (.consb (.tt false) .nil))))
(.next 1 (.cons (.bin .add .i64 (.var 27) (.lit 1)) .nil)))
(.next 1 (.cons (.bin .add .i64 (.var 27) (.lit 1)) .nil)))
.panic))
(.stuck 54)))
(.next 0 (.cons (.bin .add .i64 (.var 26) (.lit 1)) .nil)))))))
(.leaf (.consb (.tt false) .nil)))))
(.call 3 [.int .i64] (.vs 1 22 .nil) 27
(.br (.lt (.lit 11) (.var 27))
(.leaf (.consb (.tt false) .nil))
(.call 4 [.bool] .nil 28
(.leaf (.consb (.bvar 28) .nil)))))))
(.leaf (.consb (.tt false) .nil))))
(.leaf (.consb (.tt false) .nil))))
(.br (.beq (.and (.eq (.var 1) (.lit 0)) (.and (.eq (.var 2) (.lit 0)) (.and (.eq (.var 3) (.lit 0)) (.and (.eq (.var 4) (.lit 0)) (.and (.eq (.var 5) (.lit 0)) (.and (.eq (.var 6) (.lit 0)) (.and (.eq (.var 7) (.lit 0)) (.and (.eq (.var 8) (.lit 0)) (.and (.eq (.var 9) (.lit 0)) (.and (.eq (.var 10) (.lit 0)) (.and (.eq (.var 11) (.lit 0)) (.and (.eq (.var 12) (.lit 0)) (.and (.eq (.var 13) (.lit 0)) (.and (.eq (.var 14) (.lit 0)) (.and (.eq (.var 15) (.lit 0)) (.and (.eq (.var 16) (.lit 0)) (.and (.eq (.var 17) (.lit 0)) (.and (.eq (.var 18) (.lit 0)) (.and (.eq (.var 19) (.lit 0)) (.and (.eq (.var 20) (.lit 0)) (.and (.eq (.var 21) (.lit 0)) (.and (.eq (.var 22) (.lit 0)) (.tt true))))))))))))))))))))))) (.tt true))
(.call 4 [.bool] .nil 24
(.leaf (.consb (.bvar 24) .nil)))
(.leaf (.consb (.tt false) .nil))))))
def sP_alets : Spec := ⟨fun k => match k with | 0 => sF_arun | 1 => sF_achk | 2 => sF_amay | 3 => sF_aspill | 4 => sF_awakes | _ => fun _ => [], fun k => match k with | 0 => sQ_arun | 1 => sQ_achk | _ => fun _ => True⟩
set_option maxRecDepth 100000 in
theorem sR_alets : treeIs tys_AlO [sM_arun 0, sM_achk 1, sM_amay 2, sM_aspill 3, sM_awakes 4] [] [(9, [.tmpI 38 .i64, .top 39, .top 40, .top 41, .top 42, .top 6, .top 5, .top 43, .top 44, .top 45, .top 46, .top 47, .top 48, .top 49, .top 50, .top 2, .top 51, .top 52, .top 53, .top 54, .top 7, .top 55, .top 56, .top 57, .top 58, .top 59, .top 60, .top 61, .top 62, .top 63, .top 64, .top 65, .top 66, .top 67, .top 68, .top 69, .top 70, .top 71, .top 72, .top 73, .top 74, .top 75, .top 76, .top 77, .top 78, .top 79, .top 80, .top 81, .top 82, .top 83, .top 84, .top 9, .top 85, .top 86, .top 87, .top 88, .top 89, .top 90, .top 91, .top 92, .top 93, .top 94, .top 95, .top 96, .top 97, .top 98, .top 99, .top 100, .top 101, .top 102, .top 103, .top 104, .top 105, .top 106]), (17, [.tmpI 81 .i64, .top 82, .top 83, .top 84, .top 9, .top 85, .top 86, .top 87, .top 88, .top 89, .top 90, .top 91, .top 92, .top 93, .top 94, .top 95, .top 96, .top 97, .top 98, .top 99, .top 100, .top 101, .top 102, .top 103, .top 104, .top 2, .top 105]), (999999, []), (999998, [])] [] 200 Try.f5 [.one (.sl [some .i64, some .i64, some .i64, none] 25)] [.one .bool] false [.list [some .i64, some .i64, some .i64, none]] sT_alets := ⟨by kernel_rfl, by kernel_rfl, by kernel_rfl⟩
set_option maxRecDepth 100000 in
set_option maxHeartbeats 8000000 in
theorem sX_alets (l : List (List Int)) (hl : RowsIn [some .i64, some .i64, some .i64, none] l) (ρ : Env) (g : varsD ρ 0 [.list [some .i64, some .i64, some .i64, none]] = [.l l]) : sT_alets.asks sP_alets (fun ρ e => e.D ρ = sF_alets [.l l]) ρ fun _ _ => False := by
  have keepg := g
  simp only [varsD, varD, List.cons.injEq, Dt.z.injEq, Dt.l.injEq, b2i_eq_iff, Nat.reduceAdd, and_true] at g
  simp only [sT_alets, sP_alets, kP11, sF_arun, sF_achk, sF_amay, sF_aspill, sF_awakes, sV_arun, sV_achk, sV_amay, sV_aspill, sF_alets, sV_alets, sQ_arun, sQ_achk, Tr.asks, upd_same, okDs, okD, eqs, E.I, E.B, E.L, E.R, E.D, E.vs, dI, dB, dL, varD, varsD, List.getElem?_cons_zero, List.getElem?_cons_succ, List.cons_append, List.nil_append, Nat.zero_add, Nat.add_zero, Nat.reduceAdd, and_true, true_and, b2i_one, -eq_self, Span.eta, Place.eta, P11.eta, spanAt_mk, spR_mk, kf_mk, nf_mk, g]
  have k0_l0 := g
  refine ⟨fun c0 => ?_, fun c0 => ?_⟩
  intro e; (try simp only [e, Span.eta, Place.eta, P11.eta, spanAt_mk, spR_mk, kf_mk, nf_mk, -eq_self]); clear e
  · rfl
  refine ⟨?_, ?_⟩
  · exact (Nat.le_trans (Nat.not_lt.1 fun h => of_decide_eq_false c0 (by omega)) (by decide : 30 ≤ maxLen))
  intro e; have qe := e; obtain ⟨k0_i1, k0_i2, k0_i3, k0_i4, k0_i5, k0_i6, k0_i7, k0_i8, k0_i9, k0_i10, k0_i11, k0_i12, k0_i13, k0_i14, k0_i15, k0_i16, k0_i17, k0_i18, k0_i19, k0_i20, k0_i21, k0_i22, k0_i23⟩ := qe; (try simp only [e, Span.eta, Place.eta, P11.eta, spanAt_mk, spR_mk, kf_mk, nf_mk, -eq_self]); clear e
  refine ⟨fun c1 => ?_, fun c1 => ?_⟩
  refine ⟨?_, ?_⟩
  · exact (Nat.le_trans (Nat.not_lt.1 fun h => of_decide_eq_false c0 (by omega)) (by decide : 30 ≤ maxLen))
  intro e; have k0_b24 := e; (try simp only [e, Span.eta, Place.eta, P11.eta, spanAt_mk, spR_mk, kf_mk, nf_mk, -eq_self]); clear e
  refine ⟨fun c2 => ?_, fun c2 => ?_⟩
  intro e; have k0_b25 := e; (try simp only [e, Span.eta, Place.eta, P11.eta, spanAt_mk, spR_mk, kf_mk, nf_mk, -eq_self]); clear e
  refine ⟨fun c3 => ?_, fun c3 => ?_⟩
  have hp : l.length ≤ maxLen := (Nat.le_trans (Nat.not_lt.1 fun h => of_decide_eq_false c0 (by omega)) (by decide : 30 ≤ maxLen))
  have hA : aRight l = true := aRun_ok.1 (eqI c1)
  refine ⟨fun ds => ∃ i : Nat, ds = [.z (i : Int)] ∧ i ≤ l.length, fun ds => l.length - (dI ds 0).toNat, ⟨0, rfl, Nat.zero_le _⟩, ?_⟩
  intro ρ1 ha1 _ hi1
  obtain ⟨i, k1_i26, hi⟩ := hi1
  simp only [List.cons.injEq, Dt.z.injEq, Dt.l.injEq, b2i_eq_iff, and_true] at k1_i26
  have k1_l0 : ρ1.l 0 = _ := (ha1 0 (by decide)).2.2.symm.trans k0_l0
  have k1_i1 : ρ1.i 1 = _ := (ha1 1 (by decide)).1.symm.trans k0_i1
  have k1_i2 : ρ1.i 2 = _ := (ha1 2 (by decide)).1.symm.trans k0_i2
  have k1_i3 : ρ1.i 3 = _ := (ha1 3 (by decide)).1.symm.trans k0_i3
  have k1_i4 : ρ1.i 4 = _ := (ha1 4 (by decide)).1.symm.trans k0_i4
  have k1_i5 : ρ1.i 5 = _ := (ha1 5 (by decide)).1.symm.trans k0_i5
  have k1_i6 : ρ1.i 6 = _ := (ha1 6 (by decide)).1.symm.trans k0_i6
  have k1_i7 : ρ1.i 7 = _ := (ha1 7 (by decide)).1.symm.trans k0_i7
  have k1_i8 : ρ1.i 8 = _ := (ha1 8 (by decide)).1.symm.trans k0_i8
  have k1_i9 : ρ1.i 9 = _ := (ha1 9 (by decide)).1.symm.trans k0_i9
  have k1_i10 : ρ1.i 10 = _ := (ha1 10 (by decide)).1.symm.trans k0_i10
  have k1_i11 : ρ1.i 11 = _ := (ha1 11 (by decide)).1.symm.trans k0_i11
  have k1_i12 : ρ1.i 12 = _ := (ha1 12 (by decide)).1.symm.trans k0_i12
  have k1_i13 : ρ1.i 13 = _ := (ha1 13 (by decide)).1.symm.trans k0_i13
  have k1_i14 : ρ1.i 14 = _ := (ha1 14 (by decide)).1.symm.trans k0_i14
  have k1_i15 : ρ1.i 15 = _ := (ha1 15 (by decide)).1.symm.trans k0_i15
  have k1_i16 : ρ1.i 16 = _ := (ha1 16 (by decide)).1.symm.trans k0_i16
  have k1_i17 : ρ1.i 17 = _ := (ha1 17 (by decide)).1.symm.trans k0_i17
  have k1_i18 : ρ1.i 18 = _ := (ha1 18 (by decide)).1.symm.trans k0_i18
  have k1_i19 : ρ1.i 19 = _ := (ha1 19 (by decide)).1.symm.trans k0_i19
  have k1_i20 : ρ1.i 20 = _ := (ha1 20 (by decide)).1.symm.trans k0_i20
  have k1_i21 : ρ1.i 21 = _ := (ha1 21 (by decide)).1.symm.trans k0_i21
  have k1_i22 : ρ1.i 22 = _ := (ha1 22 (by decide)).1.symm.trans k0_i22
  have k1_i23 : ρ1.i 23 = _ := (ha1 23 (by decide)).1.symm.trans k0_i23
  simp only [k1_l0, k1_i1, k1_i2, k1_i3, k1_i4, k1_i5, k1_i6, k1_i7, k1_i8, k1_i9, k1_i10, k1_i11, k1_i12, k1_i13, k1_i14, k1_i15, k1_i16, k1_i17, k1_i18, k1_i19, k1_i20, k1_i21, k1_i22, k1_i23, k1_i26, spanAt_mk, spR_mk, kf_mk, nf_mk, Int.toNat_natCast, -eq_self]
  refine ⟨fun c4 => ?_, fun c4 => ?_⟩
  refine ⟨fun c5 => ?_, fun c5 => ?_⟩
  · exact absurd (of_decide_eq_true c5) (by omega)
  refine ⟨fun c6 => ?_, fun c6 => ?_⟩
  · have hi2 : i < l.length := Int.ofNat_lt.1 (of_decide_eq_true c4)
    have hO := (aR_u hA).ok (getD_mem hi2)
    exact absurd (of_decide_eq_true c6) (Int.not_lt.2 hO.1.1)
  refine ⟨fun c7 => ?_, fun c7 => ?_⟩
  refine ⟨fun c8 => ?_, fun c8 => ?_⟩
  · have hi2 : i < l.length := Int.ofNat_lt.1 (of_decide_eq_true c4)
    exact absurd (Or.inl (eqI c8)) (okC_run hA hi2).1
  refine ⟨fun c9 => ?_, fun c9 => ?_⟩
  refine ⟨fun c10 => ?_, fun c10 => ?_⟩
  refine ⟨fun c11 => ?_, fun c11 => ?_⟩
  refine ⟨fun c12 => ?_, fun c12 => ?_⟩
  · have hi2 : i < l.length := Int.ofNat_lt.1 (of_decide_eq_true c4)
    exact absurd (of_decide_eq_true c12) (by omega)
  have hi2 : i < l.length := Int.ofNat_lt.1 (of_decide_eq_true c4)
  refine ⟨fun ds => ∃ j : Nat, ds = [.z (j : Int)] ∧ j ≤ i, fun ds => i - (dI ds 0).toNat, ⟨0, rfl, Nat.zero_le _⟩, ?_⟩
  intro ρ2 ha2 _ hi3
  obtain ⟨j, k2_i27, hj⟩ := hi3
  simp only [List.cons.injEq, Dt.z.injEq, Dt.l.injEq, b2i_eq_iff, and_true] at k2_i27
  have k2_l0 : ρ2.l 0 = _ := (ha2 0 (by decide)).2.2.symm.trans k1_l0
  have k2_i1 : ρ2.i 1 = _ := (ha2 1 (by decide)).1.symm.trans k1_i1
  have k2_i2 : ρ2.i 2 = _ := (ha2 2 (by decide)).1.symm.trans k1_i2
  have k2_i3 : ρ2.i 3 = _ := (ha2 3 (by decide)).1.symm.trans k1_i3
  have k2_i4 : ρ2.i 4 = _ := (ha2 4 (by decide)).1.symm.trans k1_i4
  have k2_i5 : ρ2.i 5 = _ := (ha2 5 (by decide)).1.symm.trans k1_i5
  have k2_i6 : ρ2.i 6 = _ := (ha2 6 (by decide)).1.symm.trans k1_i6
  have k2_i7 : ρ2.i 7 = _ := (ha2 7 (by decide)).1.symm.trans k1_i7
  have k2_i8 : ρ2.i 8 = _ := (ha2 8 (by decide)).1.symm.trans k1_i8
  have k2_i9 : ρ2.i 9 = _ := (ha2 9 (by decide)).1.symm.trans k1_i9
  have k2_i10 : ρ2.i 10 = _ := (ha2 10 (by decide)).1.symm.trans k1_i10
  have k2_i11 : ρ2.i 11 = _ := (ha2 11 (by decide)).1.symm.trans k1_i11
  have k2_i12 : ρ2.i 12 = _ := (ha2 12 (by decide)).1.symm.trans k1_i12
  have k2_i13 : ρ2.i 13 = _ := (ha2 13 (by decide)).1.symm.trans k1_i13
  have k2_i14 : ρ2.i 14 = _ := (ha2 14 (by decide)).1.symm.trans k1_i14
  have k2_i15 : ρ2.i 15 = _ := (ha2 15 (by decide)).1.symm.trans k1_i15
  have k2_i16 : ρ2.i 16 = _ := (ha2 16 (by decide)).1.symm.trans k1_i16
  have k2_i17 : ρ2.i 17 = _ := (ha2 17 (by decide)).1.symm.trans k1_i17
  have k2_i18 : ρ2.i 18 = _ := (ha2 18 (by decide)).1.symm.trans k1_i18
  have k2_i19 : ρ2.i 19 = _ := (ha2 19 (by decide)).1.symm.trans k1_i19
  have k2_i20 : ρ2.i 20 = _ := (ha2 20 (by decide)).1.symm.trans k1_i20
  have k2_i21 : ρ2.i 21 = _ := (ha2 21 (by decide)).1.symm.trans k1_i21
  have k2_i22 : ρ2.i 22 = _ := (ha2 22 (by decide)).1.symm.trans k1_i22
  have k2_i23 : ρ2.i 23 = _ := (ha2 23 (by decide)).1.symm.trans k1_i23
  have k2_i26 : ρ2.i 26 = _ := (ha2 26 (by decide)).1.symm.trans k1_i26
  simp only [k2_l0, k2_i1, k2_i2, k2_i3, k2_i4, k2_i5, k2_i6, k2_i7, k2_i8, k2_i9, k2_i10, k2_i11, k2_i12, k2_i13, k2_i14, k2_i15, k2_i16, k2_i17, k2_i18, k2_i19, k2_i20, k2_i21, k2_i22, k2_i23, k2_i26, k2_i27, spanAt_mk, spR_mk, kf_mk, nf_mk, Int.toNat_natCast, -eq_self]
  refine ⟨fun c13 => ?_, fun c13 => ?_⟩
  refine ⟨fun c14 => ?_, fun c14 => ?_⟩
  · exact absurd (of_decide_eq_true c14) (by omega)
  refine ⟨fun c15 => ?_, fun c15 => ?_⟩
  refine ⟨fun c16 => ?_, fun c16 => ?_⟩
  · have hj2 : j < i := by have h := of_decide_eq_true c13; rw [List.length_take] at h; omega
    have hO := (aR_u hA).ok (getD_mem (show j < l.length by omega))
    exact absurd (of_decide_eq_true c16) (Int.not_lt.2 hO.1.1)
  refine ⟨fun c17 => ?_, fun c17 => ?_⟩
  refine ⟨fun c18 => ?_, fun c18 => ?_⟩
  refine ⟨fun c19 => ?_, fun c19 => ?_⟩
  refine ⟨fun c20 => ?_, fun c20 => ?_⟩
  · have hj2 : j < i := by have h := of_decide_eq_true c13; rw [List.length_take] at h; omega
    rw [addN hj2 (Nat.le_trans hi hp)]
    exact ⟨⟨j + 1, rfl, hj2⟩, by show i - (((j + 1 : Nat) : Int)).toNat < i - ((j : Int)).toNat; omega⟩
  refine ⟨fun c21 => ?_, fun c21 => ?_⟩
  · have hj2 : j < i := by have h := of_decide_eq_true c13; rw [List.length_take] at h; omega
    rw [addN hj2 (Nat.le_trans hi hp)]
    exact ⟨⟨j + 1, rfl, hj2⟩, by show i - (((j + 1 : Nat) : Int)).toNat < i - ((j : Int)).toNat; omega⟩
  · have hj2 : j < i := by have h := of_decide_eq_true c13; rw [List.length_take] at h; omega
    exact absurd (show clash (aRun l).1 (l.getD i []) (l.getD j []) from ⟨⟨eqI c18, eqI c19⟩, Int.not_lt.1 (of_decide_eq_false c20), Int.not_lt.1 (of_decide_eq_false c21)⟩) ((okC_run hA hi2).2 j hj2)
  · have hj2 : j < i := by have h := of_decide_eq_true c13; rw [List.length_take] at h; omega
    rw [addN hj2 (Nat.le_trans hi hp)]
    exact ⟨⟨j + 1, rfl, hj2⟩, by show i - (((j + 1 : Nat) : Int)).toNat < i - ((j : Int)).toNat; omega⟩
  · have hj2 : j < i := by have h := of_decide_eq_true c13; rw [List.length_take] at h; omega
    rw [addN hj2 (Nat.le_trans hi hp)]
    exact ⟨⟨j + 1, rfl, hj2⟩, by show i - (((j + 1 : Nat) : Int)).toNat < i - ((j : Int)).toNat; omega⟩
  · have hj2 : j < i := by have h := of_decide_eq_true c13; rw [List.length_take] at h; omega
    have hO := (aR_u hA).ok (getD_mem (show j < l.length by omega))
    exact absurd hO.1.2 (of_decide_eq_false c17)
  · have hj2 : j < i := by have h := of_decide_eq_true c13; rw [List.length_take] at h; omega
    exact absurd (of_decide_eq_false c15) (by omega)
  · rw [addN hi2 hp]
    exact ⟨⟨i + 1, rfl, hi2⟩, by show l.length - (((i + 1 : Nat) : Int)).toNat < l.length - ((i : Int)).toNat; omega⟩
  refine ⟨fun c22 => ?_, fun c22 => ?_⟩
  refine ⟨fun c23 => ?_, fun c23 => ?_⟩
  · have hi2 : i < l.length := Int.ofNat_lt.1 (of_decide_eq_true c4)
    exact absurd (of_decide_eq_true c23) (by omega)
  have hi2 : i < l.length := Int.ofNat_lt.1 (of_decide_eq_true c4)
  refine ⟨fun ds => ∃ j : Nat, ds = [.z (j : Int)] ∧ j ≤ i, fun ds => i - (dI ds 0).toNat, ⟨0, rfl, Nat.zero_le _⟩, ?_⟩
  intro ρ2 ha2 _ hi3
  obtain ⟨j, k2_i27, hj⟩ := hi3
  simp only [List.cons.injEq, Dt.z.injEq, Dt.l.injEq, b2i_eq_iff, and_true] at k2_i27
  have k2_l0 : ρ2.l 0 = _ := (ha2 0 (by decide)).2.2.symm.trans k1_l0
  have k2_i1 : ρ2.i 1 = _ := (ha2 1 (by decide)).1.symm.trans k1_i1
  have k2_i2 : ρ2.i 2 = _ := (ha2 2 (by decide)).1.symm.trans k1_i2
  have k2_i3 : ρ2.i 3 = _ := (ha2 3 (by decide)).1.symm.trans k1_i3
  have k2_i4 : ρ2.i 4 = _ := (ha2 4 (by decide)).1.symm.trans k1_i4
  have k2_i5 : ρ2.i 5 = _ := (ha2 5 (by decide)).1.symm.trans k1_i5
  have k2_i6 : ρ2.i 6 = _ := (ha2 6 (by decide)).1.symm.trans k1_i6
  have k2_i7 : ρ2.i 7 = _ := (ha2 7 (by decide)).1.symm.trans k1_i7
  have k2_i8 : ρ2.i 8 = _ := (ha2 8 (by decide)).1.symm.trans k1_i8
  have k2_i9 : ρ2.i 9 = _ := (ha2 9 (by decide)).1.symm.trans k1_i9
  have k2_i10 : ρ2.i 10 = _ := (ha2 10 (by decide)).1.symm.trans k1_i10
  have k2_i11 : ρ2.i 11 = _ := (ha2 11 (by decide)).1.symm.trans k1_i11
  have k2_i12 : ρ2.i 12 = _ := (ha2 12 (by decide)).1.symm.trans k1_i12
  have k2_i13 : ρ2.i 13 = _ := (ha2 13 (by decide)).1.symm.trans k1_i13
  have k2_i14 : ρ2.i 14 = _ := (ha2 14 (by decide)).1.symm.trans k1_i14
  have k2_i15 : ρ2.i 15 = _ := (ha2 15 (by decide)).1.symm.trans k1_i15
  have k2_i16 : ρ2.i 16 = _ := (ha2 16 (by decide)).1.symm.trans k1_i16
  have k2_i17 : ρ2.i 17 = _ := (ha2 17 (by decide)).1.symm.trans k1_i17
  have k2_i18 : ρ2.i 18 = _ := (ha2 18 (by decide)).1.symm.trans k1_i18
  have k2_i19 : ρ2.i 19 = _ := (ha2 19 (by decide)).1.symm.trans k1_i19
  have k2_i20 : ρ2.i 20 = _ := (ha2 20 (by decide)).1.symm.trans k1_i20
  have k2_i21 : ρ2.i 21 = _ := (ha2 21 (by decide)).1.symm.trans k1_i21
  have k2_i22 : ρ2.i 22 = _ := (ha2 22 (by decide)).1.symm.trans k1_i22
  have k2_i23 : ρ2.i 23 = _ := (ha2 23 (by decide)).1.symm.trans k1_i23
  have k2_i26 : ρ2.i 26 = _ := (ha2 26 (by decide)).1.symm.trans k1_i26
  simp only [k2_l0, k2_i1, k2_i2, k2_i3, k2_i4, k2_i5, k2_i6, k2_i7, k2_i8, k2_i9, k2_i10, k2_i11, k2_i12, k2_i13, k2_i14, k2_i15, k2_i16, k2_i17, k2_i18, k2_i19, k2_i20, k2_i21, k2_i22, k2_i23, k2_i26, k2_i27, spanAt_mk, spR_mk, kf_mk, nf_mk, Int.toNat_natCast, -eq_self]
  refine ⟨fun c24 => ?_, fun c24 => ?_⟩
  refine ⟨fun c25 => ?_, fun c25 => ?_⟩
  · exact absurd (of_decide_eq_true c25) (by omega)
  refine ⟨fun c26 => ?_, fun c26 => ?_⟩
  refine ⟨fun c27 => ?_, fun c27 => ?_⟩
  · have hj2 : j < i := by have h := of_decide_eq_true c24; rw [List.length_take] at h; omega
    have hO := (aR_u hA).ok (getD_mem (show j < l.length by omega))
    exact absurd (of_decide_eq_true c27) (Int.not_lt.2 hO.1.1)
  refine ⟨fun c28 => ?_, fun c28 => ?_⟩
  refine ⟨fun c29 => ?_, fun c29 => ?_⟩
  refine ⟨fun c30 => ?_, fun c30 => ?_⟩
  refine ⟨fun c31 => ?_, fun c31 => ?_⟩
  · have hj2 : j < i := by have h := of_decide_eq_true c24; rw [List.length_take] at h; omega
    rw [addN hj2 (Nat.le_trans hi hp)]
    exact ⟨⟨j + 1, rfl, hj2⟩, by show i - (((j + 1 : Nat) : Int)).toNat < i - ((j : Int)).toNat; omega⟩
  refine ⟨fun c32 => ?_, fun c32 => ?_⟩
  · have hj2 : j < i := by have h := of_decide_eq_true c24; rw [List.length_take] at h; omega
    rw [addN hj2 (Nat.le_trans hi hp)]
    exact ⟨⟨j + 1, rfl, hj2⟩, by show i - (((j + 1 : Nat) : Int)).toNat < i - ((j : Int)).toNat; omega⟩
  · have hj2 : j < i := by have h := of_decide_eq_true c24; rw [List.length_take] at h; omega
    exact absurd (show clash (aRun l).1 (l.getD i []) (l.getD j []) from ⟨⟨eqI c29, eqI c30⟩, Int.not_lt.1 (of_decide_eq_false c31), Int.not_lt.1 (of_decide_eq_false c32)⟩) ((okC_run hA hi2).2 j hj2)
  · have hj2 : j < i := by have h := of_decide_eq_true c24; rw [List.length_take] at h; omega
    rw [addN hj2 (Nat.le_trans hi hp)]
    exact ⟨⟨j + 1, rfl, hj2⟩, by show i - (((j + 1 : Nat) : Int)).toNat < i - ((j : Int)).toNat; omega⟩
  · have hj2 : j < i := by have h := of_decide_eq_true c24; rw [List.length_take] at h; omega
    rw [addN hj2 (Nat.le_trans hi hp)]
    exact ⟨⟨j + 1, rfl, hj2⟩, by show i - (((j + 1 : Nat) : Int)).toNat < i - ((j : Int)).toNat; omega⟩
  · have hj2 : j < i := by have h := of_decide_eq_true c24; rw [List.length_take] at h; omega
    have hO := (aR_u hA).ok (getD_mem (show j < l.length by omega))
    exact absurd hO.1.2 (of_decide_eq_false c28)
  · have hj2 : j < i := by have h := of_decide_eq_true c24; rw [List.length_take] at h; omega
    exact absurd (of_decide_eq_false c26) (by omega)
  · rw [addN hi2 hp]
    exact ⟨⟨i + 1, rfl, hi2⟩, by show l.length - (((i + 1 : Nat) : Int)).toNat < l.length - ((i : Int)).toNat; omega⟩
  · have hi2 : i < l.length := Int.ofNat_lt.1 (of_decide_eq_true c4)
    rcases home_run hA hi2 (eqI c9) c10 with h | h
    · exact absurd h (neI c11)
    · exact absurd h (neI c22)
  refine ⟨fun c33 => ?_, fun c33 => ?_⟩
  · have hi2 : i < l.length := Int.ofNat_lt.1 (of_decide_eq_true c4)
    exact absurd (of_decide_eq_true c33) (by omega)
  have hi2 : i < l.length := Int.ofNat_lt.1 (of_decide_eq_true c4)
  refine ⟨fun ds => ∃ j : Nat, ds = [.z (j : Int)] ∧ j ≤ i, fun ds => i - (dI ds 0).toNat, ⟨0, rfl, Nat.zero_le _⟩, ?_⟩
  intro ρ2 ha2 _ hi3
  obtain ⟨j, k2_i27, hj⟩ := hi3
  simp only [List.cons.injEq, Dt.z.injEq, Dt.l.injEq, b2i_eq_iff, and_true] at k2_i27
  have k2_l0 : ρ2.l 0 = _ := (ha2 0 (by decide)).2.2.symm.trans k1_l0
  have k2_i1 : ρ2.i 1 = _ := (ha2 1 (by decide)).1.symm.trans k1_i1
  have k2_i2 : ρ2.i 2 = _ := (ha2 2 (by decide)).1.symm.trans k1_i2
  have k2_i3 : ρ2.i 3 = _ := (ha2 3 (by decide)).1.symm.trans k1_i3
  have k2_i4 : ρ2.i 4 = _ := (ha2 4 (by decide)).1.symm.trans k1_i4
  have k2_i5 : ρ2.i 5 = _ := (ha2 5 (by decide)).1.symm.trans k1_i5
  have k2_i6 : ρ2.i 6 = _ := (ha2 6 (by decide)).1.symm.trans k1_i6
  have k2_i7 : ρ2.i 7 = _ := (ha2 7 (by decide)).1.symm.trans k1_i7
  have k2_i8 : ρ2.i 8 = _ := (ha2 8 (by decide)).1.symm.trans k1_i8
  have k2_i9 : ρ2.i 9 = _ := (ha2 9 (by decide)).1.symm.trans k1_i9
  have k2_i10 : ρ2.i 10 = _ := (ha2 10 (by decide)).1.symm.trans k1_i10
  have k2_i11 : ρ2.i 11 = _ := (ha2 11 (by decide)).1.symm.trans k1_i11
  have k2_i12 : ρ2.i 12 = _ := (ha2 12 (by decide)).1.symm.trans k1_i12
  have k2_i13 : ρ2.i 13 = _ := (ha2 13 (by decide)).1.symm.trans k1_i13
  have k2_i14 : ρ2.i 14 = _ := (ha2 14 (by decide)).1.symm.trans k1_i14
  have k2_i15 : ρ2.i 15 = _ := (ha2 15 (by decide)).1.symm.trans k1_i15
  have k2_i16 : ρ2.i 16 = _ := (ha2 16 (by decide)).1.symm.trans k1_i16
  have k2_i17 : ρ2.i 17 = _ := (ha2 17 (by decide)).1.symm.trans k1_i17
  have k2_i18 : ρ2.i 18 = _ := (ha2 18 (by decide)).1.symm.trans k1_i18
  have k2_i19 : ρ2.i 19 = _ := (ha2 19 (by decide)).1.symm.trans k1_i19
  have k2_i20 : ρ2.i 20 = _ := (ha2 20 (by decide)).1.symm.trans k1_i20
  have k2_i21 : ρ2.i 21 = _ := (ha2 21 (by decide)).1.symm.trans k1_i21
  have k2_i22 : ρ2.i 22 = _ := (ha2 22 (by decide)).1.symm.trans k1_i22
  have k2_i23 : ρ2.i 23 = _ := (ha2 23 (by decide)).1.symm.trans k1_i23
  have k2_i26 : ρ2.i 26 = _ := (ha2 26 (by decide)).1.symm.trans k1_i26
  simp only [k2_l0, k2_i1, k2_i2, k2_i3, k2_i4, k2_i5, k2_i6, k2_i7, k2_i8, k2_i9, k2_i10, k2_i11, k2_i12, k2_i13, k2_i14, k2_i15, k2_i16, k2_i17, k2_i18, k2_i19, k2_i20, k2_i21, k2_i22, k2_i23, k2_i26, k2_i27, spanAt_mk, spR_mk, kf_mk, nf_mk, Int.toNat_natCast, -eq_self]
  refine ⟨fun c34 => ?_, fun c34 => ?_⟩
  refine ⟨fun c35 => ?_, fun c35 => ?_⟩
  · exact absurd (of_decide_eq_true c35) (by omega)
  refine ⟨fun c36 => ?_, fun c36 => ?_⟩
  refine ⟨fun c37 => ?_, fun c37 => ?_⟩
  · have hj2 : j < i := by have h := of_decide_eq_true c34; rw [List.length_take] at h; omega
    have hO := (aR_u hA).ok (getD_mem (show j < l.length by omega))
    exact absurd (of_decide_eq_true c37) (Int.not_lt.2 hO.1.1)
  refine ⟨fun c38 => ?_, fun c38 => ?_⟩
  refine ⟨fun c39 => ?_, fun c39 => ?_⟩
  refine ⟨fun c40 => ?_, fun c40 => ?_⟩
  refine ⟨fun c41 => ?_, fun c41 => ?_⟩
  · have hj2 : j < i := by have h := of_decide_eq_true c34; rw [List.length_take] at h; omega
    rw [addN hj2 (Nat.le_trans hi hp)]
    exact ⟨⟨j + 1, rfl, hj2⟩, by show i - (((j + 1 : Nat) : Int)).toNat < i - ((j : Int)).toNat; omega⟩
  refine ⟨fun c42 => ?_, fun c42 => ?_⟩
  · have hj2 : j < i := by have h := of_decide_eq_true c34; rw [List.length_take] at h; omega
    rw [addN hj2 (Nat.le_trans hi hp)]
    exact ⟨⟨j + 1, rfl, hj2⟩, by show i - (((j + 1 : Nat) : Int)).toNat < i - ((j : Int)).toNat; omega⟩
  · have hj2 : j < i := by have h := of_decide_eq_true c34; rw [List.length_take] at h; omega
    exact absurd (show clash (aRun l).1 (l.getD i []) (l.getD j []) from ⟨⟨eqI c39, eqI c40⟩, Int.not_lt.1 (of_decide_eq_false c41), Int.not_lt.1 (of_decide_eq_false c42)⟩) ((okC_run hA hi2).2 j hj2)
  · have hj2 : j < i := by have h := of_decide_eq_true c34; rw [List.length_take] at h; omega
    rw [addN hj2 (Nat.le_trans hi hp)]
    exact ⟨⟨j + 1, rfl, hj2⟩, by show i - (((j + 1 : Nat) : Int)).toNat < i - ((j : Int)).toNat; omega⟩
  · have hj2 : j < i := by have h := of_decide_eq_true c34; rw [List.length_take] at h; omega
    rw [addN hj2 (Nat.le_trans hi hp)]
    exact ⟨⟨j + 1, rfl, hj2⟩, by show i - (((j + 1 : Nat) : Int)).toNat < i - ((j : Int)).toNat; omega⟩
  · have hj2 : j < i := by have h := of_decide_eq_true c34; rw [List.length_take] at h; omega
    have hO := (aR_u hA).ok (getD_mem (show j < l.length by omega))
    exact absurd hO.1.2 (of_decide_eq_false c38)
  · have hj2 : j < i := by have h := of_decide_eq_true c34; rw [List.length_take] at h; omega
    exact absurd (of_decide_eq_false c36) (by omega)
  · rw [addN hi2 hp]
    exact ⟨⟨i + 1, rfl, hi2⟩, by show l.length - (((i + 1 : Nat) : Int)).toNat < l.length - ((i : Int)).toNat; omega⟩
  refine ⟨fun c43 => ?_, fun c43 => ?_⟩
  · have hi2 : i < l.length := Int.ofNat_lt.1 (of_decide_eq_true c4)
    exact absurd (of_decide_eq_true c43) (by omega)
  have hi2 : i < l.length := Int.ofNat_lt.1 (of_decide_eq_true c4)
  refine ⟨fun ds => ∃ j : Nat, ds = [.z (j : Int)] ∧ j ≤ i, fun ds => i - (dI ds 0).toNat, ⟨0, rfl, Nat.zero_le _⟩, ?_⟩
  intro ρ2 ha2 _ hi3
  obtain ⟨j, k2_i27, hj⟩ := hi3
  simp only [List.cons.injEq, Dt.z.injEq, Dt.l.injEq, b2i_eq_iff, and_true] at k2_i27
  have k2_l0 : ρ2.l 0 = _ := (ha2 0 (by decide)).2.2.symm.trans k1_l0
  have k2_i1 : ρ2.i 1 = _ := (ha2 1 (by decide)).1.symm.trans k1_i1
  have k2_i2 : ρ2.i 2 = _ := (ha2 2 (by decide)).1.symm.trans k1_i2
  have k2_i3 : ρ2.i 3 = _ := (ha2 3 (by decide)).1.symm.trans k1_i3
  have k2_i4 : ρ2.i 4 = _ := (ha2 4 (by decide)).1.symm.trans k1_i4
  have k2_i5 : ρ2.i 5 = _ := (ha2 5 (by decide)).1.symm.trans k1_i5
  have k2_i6 : ρ2.i 6 = _ := (ha2 6 (by decide)).1.symm.trans k1_i6
  have k2_i7 : ρ2.i 7 = _ := (ha2 7 (by decide)).1.symm.trans k1_i7
  have k2_i8 : ρ2.i 8 = _ := (ha2 8 (by decide)).1.symm.trans k1_i8
  have k2_i9 : ρ2.i 9 = _ := (ha2 9 (by decide)).1.symm.trans k1_i9
  have k2_i10 : ρ2.i 10 = _ := (ha2 10 (by decide)).1.symm.trans k1_i10
  have k2_i11 : ρ2.i 11 = _ := (ha2 11 (by decide)).1.symm.trans k1_i11
  have k2_i12 : ρ2.i 12 = _ := (ha2 12 (by decide)).1.symm.trans k1_i12
  have k2_i13 : ρ2.i 13 = _ := (ha2 13 (by decide)).1.symm.trans k1_i13
  have k2_i14 : ρ2.i 14 = _ := (ha2 14 (by decide)).1.symm.trans k1_i14
  have k2_i15 : ρ2.i 15 = _ := (ha2 15 (by decide)).1.symm.trans k1_i15
  have k2_i16 : ρ2.i 16 = _ := (ha2 16 (by decide)).1.symm.trans k1_i16
  have k2_i17 : ρ2.i 17 = _ := (ha2 17 (by decide)).1.symm.trans k1_i17
  have k2_i18 : ρ2.i 18 = _ := (ha2 18 (by decide)).1.symm.trans k1_i18
  have k2_i19 : ρ2.i 19 = _ := (ha2 19 (by decide)).1.symm.trans k1_i19
  have k2_i20 : ρ2.i 20 = _ := (ha2 20 (by decide)).1.symm.trans k1_i20
  have k2_i21 : ρ2.i 21 = _ := (ha2 21 (by decide)).1.symm.trans k1_i21
  have k2_i22 : ρ2.i 22 = _ := (ha2 22 (by decide)).1.symm.trans k1_i22
  have k2_i23 : ρ2.i 23 = _ := (ha2 23 (by decide)).1.symm.trans k1_i23
  have k2_i26 : ρ2.i 26 = _ := (ha2 26 (by decide)).1.symm.trans k1_i26
  simp only [k2_l0, k2_i1, k2_i2, k2_i3, k2_i4, k2_i5, k2_i6, k2_i7, k2_i8, k2_i9, k2_i10, k2_i11, k2_i12, k2_i13, k2_i14, k2_i15, k2_i16, k2_i17, k2_i18, k2_i19, k2_i20, k2_i21, k2_i22, k2_i23, k2_i26, k2_i27, spanAt_mk, spR_mk, kf_mk, nf_mk, Int.toNat_natCast, -eq_self]
  refine ⟨fun c44 => ?_, fun c44 => ?_⟩
  refine ⟨fun c45 => ?_, fun c45 => ?_⟩
  · exact absurd (of_decide_eq_true c45) (by omega)
  refine ⟨fun c46 => ?_, fun c46 => ?_⟩
  refine ⟨fun c47 => ?_, fun c47 => ?_⟩
  · have hj2 : j < i := by have h := of_decide_eq_true c44; rw [List.length_take] at h; omega
    have hO := (aR_u hA).ok (getD_mem (show j < l.length by omega))
    exact absurd (of_decide_eq_true c47) (Int.not_lt.2 hO.1.1)
  refine ⟨fun c48 => ?_, fun c48 => ?_⟩
  refine ⟨fun c49 => ?_, fun c49 => ?_⟩
  refine ⟨fun c50 => ?_, fun c50 => ?_⟩
  refine ⟨fun c51 => ?_, fun c51 => ?_⟩
  · have hj2 : j < i := by have h := of_decide_eq_true c44; rw [List.length_take] at h; omega
    rw [addN hj2 (Nat.le_trans hi hp)]
    exact ⟨⟨j + 1, rfl, hj2⟩, by show i - (((j + 1 : Nat) : Int)).toNat < i - ((j : Int)).toNat; omega⟩
  refine ⟨fun c52 => ?_, fun c52 => ?_⟩
  · have hj2 : j < i := by have h := of_decide_eq_true c44; rw [List.length_take] at h; omega
    rw [addN hj2 (Nat.le_trans hi hp)]
    exact ⟨⟨j + 1, rfl, hj2⟩, by show i - (((j + 1 : Nat) : Int)).toNat < i - ((j : Int)).toNat; omega⟩
  · have hj2 : j < i := by have h := of_decide_eq_true c44; rw [List.length_take] at h; omega
    exact absurd (show clash (aRun l).1 (l.getD i []) (l.getD j []) from ⟨⟨eqI c49, eqI c50⟩, Int.not_lt.1 (of_decide_eq_false c51), Int.not_lt.1 (of_decide_eq_false c52)⟩) ((okC_run hA hi2).2 j hj2)
  · have hj2 : j < i := by have h := of_decide_eq_true c44; rw [List.length_take] at h; omega
    rw [addN hj2 (Nat.le_trans hi hp)]
    exact ⟨⟨j + 1, rfl, hj2⟩, by show i - (((j + 1 : Nat) : Int)).toNat < i - ((j : Int)).toNat; omega⟩
  · have hj2 : j < i := by have h := of_decide_eq_true c44; rw [List.length_take] at h; omega
    rw [addN hj2 (Nat.le_trans hi hp)]
    exact ⟨⟨j + 1, rfl, hj2⟩, by show i - (((j + 1 : Nat) : Int)).toNat < i - ((j : Int)).toNat; omega⟩
  · have hj2 : j < i := by have h := of_decide_eq_true c44; rw [List.length_take] at h; omega
    have hO := (aR_u hA).ok (getD_mem (show j < l.length by omega))
    exact absurd hO.1.2 (of_decide_eq_false c48)
  · have hj2 : j < i := by have h := of_decide_eq_true c44; rw [List.length_take] at h; omega
    exact absurd (of_decide_eq_false c46) (by omega)
  · rw [addN hi2 hp]
    exact ⟨⟨i + 1, rfl, hi2⟩, by show l.length - (((i + 1 : Nat) : Int)).toNat < l.length - ((i : Int)).toNat; omega⟩
  · have hi2 : i < l.length := Int.ofNat_lt.1 (of_decide_eq_true c4)
    have hO := (aR_u hA).ok (getD_mem hi2)
    exact absurd hO.1.2 (of_decide_eq_false c7)
  intro e; (try simp only [e, Span.eta, Place.eta, P11.eta, spanAt_mk, spR_mk, kf_mk, nf_mk, -eq_self]); clear e
  refine ⟨fun c53 => ?_, fun c53 => ?_⟩
  · exact absurd (of_decide_eq_true c53) (Int.not_lt.2 (aSpl_run (aRun_ok.1 (eqI c1))))
  intro e; (try simp only [e, Span.eta, Place.eta, P11.eta, spanAt_mk, spR_mk, kf_mk, nf_mk, -eq_self]); clear e
  · rfl
  · rw [aMayA_run (aRun_ok.1 (eqI c1))] at c3; cases c3
  · rw [aChk_run (aRun_ok.1 (eqI c1))] at c2; cases c2
  refine ⟨fun c54 => ?_, fun c54 => ?_⟩
  intro e; (try simp only [e, Span.eta, Place.eta, P11.eta, spanAt_mk, spR_mk, kf_mk, nf_mk, -eq_self]); clear e
  · rfl
  · have hA : aRight l = false := by cases h : aRight l with | false => rfl | true => exact absurd (aRun_ok.2 h) (neI c1)
    rw [aRun_n hA] at c54
    exact absurd c54 (by decide)
theorem sC_alets (xs : List Dt) (vals : List Value) (w : World) (hw : shRel w [.one (.sl [some .i64, some .i64, some .i64, none] 25)] xs vals) : Calls Try.prog 5 vals.toArray w fun e w' => ∃ v, e = .returned v ∧ RetOk [.one .bool] false w w' (sF_alets xs) v :=
  (fun_calls (by kernel_rfl) tysok_AlO (smc (sK_arun rfl rfl) (smc (sK_achk rfl rfl) (smc (sK_amay rfl) (smc (sK_aspill rfl) (smc (sK_awakes rfl) sm0))))) Try.func5 fn0 sR_alets (pre := fun _ => True) (fun x0 gx0 hp ρ g => sX_alets x0 gx0 ρ g) xs vals w hw trivial).2
set_option maxRecDepth 100000 in
set_option maxHeartbeats 8000000 in
theorem law_AllocLets {H : Type} {enc : TypeId × Value → H} {W : World} {r : Reach} {b0 : Nat} (v0 : Value) (k0 : Value.okWide Try.prog W r b0 22 v0) (d0 : DataW H) (p0 : List MemPlace) (h0 : DataW.Trod enc Try.prog W 0 (fun _ => true) true 22 v0 d0 p0) (_ : ∀ x ∈ p0, x.block < W.heap.size) :
    Calls Try.prog 5 #[v0] W fun e W' => e = .returned (.bool true) ∧ Below W.heap.size W W' := by
  obtain ⟨q0, s0, rfl, n0, m0, o0, l0⟩ := sl_of_arg rwSpan (by decide) Try.underlying22 k0 h0
  refine (sC_alets (.l q0 :: ([])) _ W ⟨_, _, _, rfl, ⟨_, _, rfl, rfl, n0, m0, o0, l0⟩, ⟨rfl, rfl⟩⟩).mono fun e W' ⟨v, he, hr⟩ => ?_
  have hv : v = .bool true := RetOk.says hr
  rw [he, hv]
  exact ⟨rfl, hr.ext⟩
end Go.Proofs.Ytoaffiooliclgaa
