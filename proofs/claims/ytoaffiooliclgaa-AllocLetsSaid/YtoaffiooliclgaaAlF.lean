/- Contract of alloc.Run, by the symbolic run. -/
import Derived.Test.YtoaffiooliclgaaAlE
import Derived.Test.YtoaffiooliclgaaProg
import Derived.Laws.Externs
set_option linter.unusedVariables false
set_option linter.unusedSimpArgs false
namespace Go.Proofs.Ytoaffiooliclgaa
open Go.RowKit Go.ChangeShapes Go.WideShapes

def tys_AlF : List (Nat × TI) := [(3, ⟨false, 1, [.int .i64 (.lit 0)], [], none, some .i64, false, false, none, 8, false, none, false, 0⟩),
 (4, ⟨false, 1, [.bool (.tt false)], [], none, none, false, true, none, 1, false, none, false, 0⟩),
 (22, ⟨false, 1, [.nsl], [], none, none, false, false, some 25, 24, false, none, false, 0⟩),
 (25, ⟨true, 4, [.int .i64 (.lit 0), .int .i64 (.lit 0), .int .i64 (.lit 0), .bool (.tt false)], [(0, 3), (1, 3), (2, 3), (3, 4)], none, none, true, false, none, 32, false, none, false, 0⟩),
 (26, ⟨false, 1, [.int .i8 (.lit 0)], [], none, some .i8, false, false, none, 1, false, none, false, 0⟩),
 (28, ⟨true, 2, [.int .i8 (.lit 0), .int .i8 (.lit 0)], [(0, 26), (1, 26)], none, none, true, false, none, 2, false, none, true, 0⟩),
 (29, ⟨true, 22, [.int .i8 (.lit 0), .int .i8 (.lit 0), .int .i8 (.lit 0), .int .i8 (.lit 0), .int .i8 (.lit 0), .int .i8 (.lit 0), .int .i8 (.lit 0), .int .i8 (.lit 0), .int .i8 (.lit 0), .int .i8 (.lit 0), .int .i8 (.lit 0), .int .i8 (.lit 0), .int .i8 (.lit 0), .int .i8 (.lit 0), .int .i8 (.lit 0), .int .i8 (.lit 0), .int .i8 (.lit 0), .int .i8 (.lit 0), .int .i8 (.lit 0), .int .i8 (.lit 0), .int .i8 (.lit 0), .int .i8 (.lit 0)], [], some (11, 28), none, false, false, none, 22, false, none, false, 0⟩),
 (42, ⟨false, 1, [.nmp], [], none, none, false, false, none, 8, false, some (28, 25), false, 0⟩),
 (43, ⟨false, 1, [.nsl], [], none, none, false, false, some 26, 24, false, none, false, 0⟩),
 (52, ⟨false, 1, [.int .u64 (.lit 0)], [], none, some .u64, false, false, none, 8, false, none, false, 0⟩),
 (57, ⟨false, 1, [.int .i64 (.lit 0)], [], none, some .i64, false, false, none, 8, false, none, false, 0⟩),
 (65, ⟨false, 1, [.int .u32 (.lit 0)], [], none, some .u32, false, false, none, 4, false, none, false, 0⟩)]
set_option maxRecDepth 100000 in
theorem tysck_AlF : (tys_AlF.all fun p => ckTI Try.prog p.1 p.2) = true := by kernel_rfl
theorem tyseq_AlF : (tys_AlF.all fun p => !p.2.eqok || ((Nat.beq p.1 25 && kindsC p.2.zero z_Span) || (Nat.beq p.1 28 && kindsC p.2.zero z_Place))) = true := by kernel_rfl
theorem tyskn_AlF : (tys_AlF.all fun p => !p.2.keyok || ((Nat.beq p.1 28 && kindsC p.2.zero z_Place))) = true := by kernel_rfl
theorem tysok_AlF : ∀ t i, (t, i) ∈ tys_AlF → TIok Try.prog t i := by
  intro t i h
  refine TIok_of (all_at (f := ckTI Try.prog) tysck_AlF h) (fun he => ?_) (fun he => ?_) (fun he => ?_)
  · have h1 := List.all_eq_true.1 tyseq_AlF (t, i) h
    simp only [he, Bool.not_true, Bool.false_or, Bool.or_eq_true, Bool.and_eq_true] at h1
    rcases h1 with h1 | h1
    · have hs := h1.2
      obtain rfl := Nat.eq_of_beq_eq_true h1.1
      exact fun vs us hv hu => eq_Span vs us (kindsV_of hs hv) (kindsV_of hs hu)
    · have hs := h1.2
      obtain rfl := Nat.eq_of_beq_eq_true h1.1
      exact fun vs us hv hu => eq_Place vs us (kindsV_of hs hv) (kindsV_of hs hu)
  · have h1 := List.all_eq_true.1 tyseq_AlF (t, i) h
    simp only [he, Bool.not_true, Bool.false_or, Bool.or_eq_true, Bool.and_eq_true] at h1
    rcases h1 with h1 | h1
    · have hs := h1.2
      obtain rfl := Nat.eq_of_beq_eq_true h1.1
      exact grd_Span
    · have hs := h1.2
      obtain rfl := Nat.eq_of_beq_eq_true h1.1
      exact grd_Place
  · have h1 := List.all_eq_true.1 tyskn_AlF (t, i) h
    simp only [he, Bool.not_true, Bool.false_or, Bool.or_eq_true, Bool.and_eq_true] at h1
    have hs := h1.2
    obtain rfl := Nat.eq_of_beq_eq_true h1.1
    exact fun vs hv => key_Place vs (kindsV_of hs hv)
def sM_arun (key : Nat) : Sm := ⟨7, key, [.one (.sl [some .i64, some .i64, some .i64, none] 25)], [.agg kP11, .one (.int .i64)], true⟩
def sV_arun (l : List (List Int)) : List Dt := [.z (((aRun l).1).k0), .z (((aRun l).1).n0), .z (((aRun l).1).k1), .z (((aRun l).1).n1), .z (((aRun l).1).k2), .z (((aRun l).1).n2), .z (((aRun l).1).k3), .z (((aRun l).1).n3), .z (((aRun l).1).k4), .z (((aRun l).1).n4), .z (((aRun l).1).k5), .z (((aRun l).1).n5), .z (((aRun l).1).k6), .z (((aRun l).1).n6), .z (((aRun l).1).k7), .z (((aRun l).1).n7), .z (((aRun l).1).k8), .z (((aRun l).1).n8), .z (((aRun l).1).k9), .z (((aRun l).1).n9), .z (((aRun l).1).k10), .z (((aRun l).1).n10), .z ((aRun l).2)]
def sF_arun : List Dt → List Dt
  | [.l x0] => sV_arun x0
  | _ => []
set_option maxRecDepth 100000 in
def sT_arun : Tr :=
(.call 0 [.bool] (.consl (.lvar 0) .nil) 1
(.br (.bvar 1)
(.cut 0 2 [.list [some .i64, some .i64, some .i64, none]]
(.any 2 (.not (.and (.eq (.var 2) (.lit 0)) (.lt (.lit 0) (.len (.lvar 0)))))
(.br (.eq (.var 2) (.lit 0))
(.next 0 (.consl .lnil .nil))
(.br (.lt (.len (.lvar 0)) (.lit 1073741824))
(.next 0 (.consl (.lvar 0) .nil))
.panic)))
(.call 3 [.int .i64] (.cons (.conv .u64 (.len (.lvar 2))) .nil) 3
(.br (.lt (.lit 12) (.bin .sub .i64 (.len (.lvar 2)) (.lit 0)))
(.br (.eq (.var 3) (.lit 0))
(.stuck 200028)
(.stuck 200030))
(.loop 1 4 [.int .i64, .list [some .i64, some .i64, some .i64, none]] (.cons (.lit 1) (.consl (.lvar 2) .nil))
(.br (.lt (.var 4) (.len (.lvar 2)))
(.loop 2 6 [.int .i64, .list [some .i64, some .i64, some .i64, none]] (.cons (.var 4) (.consl (.lvar 5) .nil))
(.br (.lt (.lit 0) (.var 6))
(.br (.lt (.var 6) (.lit 0))
.panic
(.br (.lt (.var 6) (.len (.lvar 7)))
(.br (.lt (.bin .sub .i64 (.var 6) (.lit 1)) (.lit 0))
.panic
(.br (.lt (.bin .sub .i64 (.var 6) (.lit 1)) (.len (.lvar 7)))
(.call 1 [.int .i64] (.cons (.get (.lvar 7) (.var 6) 0) (.cons (.get (.lvar 7) (.var 6) 1) (.cons (.get (.lvar 7) (.var 6) 2) (.consb (.getb (.lvar 7) (.var 6) 3) (.cons (.get (.lvar 7) (.bin .sub .i64 (.var 6) (.lit 1)) 0) (.cons (.get (.lvar 7) (.bin .sub .i64 (.var 6) (.lit 1)) 1) (.cons (.get (.lvar 7) (.bin .sub .i64 (.var 6) (.lit 1)) 2) (.consb (.getb (.lvar 7) (.bin .sub .i64 (.var 6) (.lit 1)) 3) .nil)))))))) 8
(.br (.lt (.var 8) (.lit 0))
(.next 2 (.cons (.bin .sub .i64 (.var 6) (.lit 1)) (.consl (.lsetb (.lset (.lset (.lset (.lsetb (.lset (.lset (.lset (.lvar 7) (.var 6) 0 (.get (.lvar 7) (.bin .sub .i64 (.var 6) (.lit 1)) 0)) (.var 6) 1 (.get (.lvar 7) (.bin .sub .i64 (.var 6) (.lit 1)) 1)) (.var 6) 2 (.get (.lvar 7) (.bin .sub .i64 (.var 6) (.lit 1)) 2)) (.var 6) 3 (.getb (.lvar 7) (.bin .sub .i64 (.var 6) (.lit 1)) 3)) (.bin .sub .i64 (.var 6) (.lit 1)) 0 (.get (.lvar 7) (.var 6) 0)) (.bin .sub .i64 (.var 6) (.lit 1)) 1 (.get (.lvar 7) (.var 6) 1)) (.bin .sub .i64 (.var 6) (.lit 1)) 2 (.get (.lvar 7) (.var 6) 2)) (.bin .sub .i64 (.var 6) (.lit 1)) 3 (.getb (.lvar 7) (.var 6) 3)) .nil)))
(.next 1 (.cons (.bin .add .i64 (.var 4) (.lit 1)) (.consl (.lvar 7) .nil)))))
.panic))
.panic))
(.next 1 (.cons (.bin .add .i64 (.var 4) (.lit 1)) (.consl (.lvar 7) .nil)))))
(.loop 2 6 [.int .i64, .list [some .i8, some .i8, some .i64, some .i64, some .i64, none], .int .i8, .int .i8, .int .i8, .int .i8, .int .i8, .int .i8, .int .i8, .int .i8, .int .i8, .int .i8, .int .i8, .int .i8, .int .i8, .int .i8, .int .i8, .int .i8, .int .i8, .int .i8, .int .i8, .int .i8, .int .i8, .int .i8] (.cons (.lit 0) (.consl .lnil (.cons (.lit 0) (.cons (.lit 0) (.cons (.lit 0) (.cons (.lit 0) (.cons (.lit 0) (.cons (.lit 0) (.cons (.lit 0) (.cons (.lit 0) (.cons (.lit 0) (.cons (.lit 0) (.cons (.lit 0) (.cons (.lit 0) (.cons (.lit 0) (.cons (.lit 0) (.cons (.lit 0) (.cons (.lit 0) (.cons (.lit 0) (.cons (.lit 0) (.cons (.lit 0) (.cons (.lit 0) (.cons (.lit 0) (.cons (.lit 0) .nil))))))))))))))))))))))))
(.br (.lt (.var 6) (.len (.lvar 5)))
(.br (.lt (.var 6) (.lit 0))
.panic
(.cut 3 30 [.bool, .list [some .i64, some .i64, some .i64, none], .list [some .i8, some .i8, some .i64, some .i64, some .i64, none], .int .i8, .int .i8, .int .i8, .int .i8, .int .i8, .int .i8, .int .i8, .int .i8, .int .i8, .int .i8, .int .i8, .int .i8, .int .i8, .int .i8, .int .i8, .int .i8, .int .i8, .int .i8, .int .i8, .int .i8, .int .i8, .int .i8]
(.br (.getb (.lvar 5) (.var 6) 3)
(.br (.lt (.mix (.lvar 7) (.cons (.lit 1) (.cons (.lit 3) .nil))) (.len (.lvar 7)))
(.br (.lt (.get (.lvar 7) (.mix (.lvar 7) (.cons (.lit 1) (.cons (.lit 3) .nil))) 4) (.get (.lvar 5) (.var 6) 1))
(.br (.lt (.get (.lvar 5) (.var 6) 0) (.lit 0))
.panic
(.br (.lt (.get (.lvar 5) (.var 6) 0) (.lit 11))
(.next 3 (.consb (.tt true) (.consl (.lapp .lnil (.cons (.get (.lvar 5) (.var 6) 0) (.cons (.get (.lvar 5) (.var 6) 1) (.cons (.get (.lvar 5) (.var 6) 2) (.consb (.getb (.lvar 5) (.var 6) 3) .nil))))) (.consl (.lput (.lvar 7) (.mix (.lvar 7) (.cons (.lit 1) (.cons (.lit 3) .nil))) (.cons (.lit 1) (.cons (.lit 3) (.cons (.get (.lvar 5) (.var 6) 0) (.cons (.get (.lvar 5) (.var 6) 1) (.cons (.get (.lvar 5) (.var 6) 2) (.consb (.getb (.lvar 5) (.var 6) 3) .nil))))))) (.cons (.ite (.eq (.get (.lvar 5) (.var 6) 0) (.lit 0)) (.lit 1) (.var 8)) (.cons (.ite (.eq (.get (.lvar 5) (.var 6) 0) (.lit 0)) (.lit 3) (.var 9)) (.cons (.ite (.eq (.get (.lvar 5) (.var 6) 0) (.lit 1)) (.lit 1) (.var 10)) (.cons (.ite (.eq (.get (.lvar 5) (.var 6) 0) (.lit 1)) (.lit 3) (.var 11)) (.cons (.ite (.eq (.get (.lvar 5) (.var 6) 0) (.lit 2)) (.lit 1) (.var 12)) (.cons (.ite (.eq (.get (.lvar 5) (.var 6) 0) (.lit 2)) (.lit 3) (.var 13)) (.cons (.ite (.eq (.get (.lvar 5) (.var 6) 0) (.lit 3)) (.lit 1) (.var 14)) (.cons (.ite (.eq (.get (.lvar 5) (.var 6) 0) (.lit 3)) (.lit 3) (.var 15)) (.cons (.ite (.eq (.get (.lvar 5) (.var 6) 0) (.lit 4)) (.lit 1) (.var 16)) (.cons (.ite (.eq (.get (.lvar 5) (.var 6) 0) (.lit 4)) (.lit 3) (.var 17)) (.cons (.ite (.eq (.get (.lvar 5) (.var 6) 0) (.lit 5)) (.lit 1) (.var 18)) (.cons (.ite (.eq (.get (.lvar 5) (.var 6) 0) (.lit 5)) (.lit 3) (.var 19)) (.cons (.ite (.eq (.get (.lvar 5) (.var 6) 0) (.lit 6)) (.lit 1) (.var 20)) (.cons (.ite (.eq (.get (.lvar 5) (.var 6) 0) (.lit 6)) (.lit 3) (.var 21)) (.cons (.ite (.eq (.get (.lvar 5) (.var 6) 0) (.lit 7)) (.lit 1) (.var 22)) (.cons (.ite (.eq (.get (.lvar 5) (.var 6) 0) (.lit 7)) (.lit 3) (.var 23)) (.cons (.ite (.eq (.get (.lvar 5) (.var 6) 0) (.lit 8)) (.lit 1) (.var 24)) (.cons (.ite (.eq (.get (.lvar 5) (.var 6) 0) (.lit 8)) (.lit 3) (.var 25)) (.cons (.ite (.eq (.get (.lvar 5) (.var 6) 0) (.lit 9)) (.lit 1) (.var 26)) (.cons (.ite (.eq (.get (.lvar 5) (.var 6) 0) (.lit 9)) (.lit 3) (.var 27)) (.cons (.ite (.eq (.get (.lvar 5) (.var 6) 0) (.lit 10)) (.lit 1) (.var 28)) (.cons (.ite (.eq (.get (.lvar 5) (.var 6) 0) (.lit 10)) (.lit 3) (.var 29)) .nil))))))))))))))))))))))))))
.panic))
(.br (.lt (.mix (.lvar 7) (.cons (.lit 1) (.cons (.lit 9) .nil))) (.len (.lvar 7)))
(.br (.lt (.get (.lvar 7) (.mix (.lvar 7) (.cons (.lit 1) (.cons (.lit 9) .nil))) 4) (.get (.lvar 5) (.var 6) 1))
(.br (.lt (.get (.lvar 5) (.var 6) 0) (.lit 0))
.panic
(.br (.lt (.get (.lvar 5) (.var 6) 0) (.lit 11))
(.next 3 (.consb (.tt true) (.consl (.lapp (.lapp .lnil (.cons (.get (.lvar 5) (.var 6) 0) (.cons (.get (.lvar 5) (.var 6) 1) (.cons (.get (.lvar 5) (.var 6) 2) (.consb (.getb (.lvar 5) (.var 6) 3) .nil))))) (.cons (.get (.lvar 7) (.mix (.lvar 7) (.cons (.lit 1) (.cons (.lit 3) .nil))) 2) (.cons (.get (.lvar 7) (.mix (.lvar 7) (.cons (.lit 1) (.cons (.lit 3) .nil))) 3) (.cons (.get (.lvar 7) (.mix (.lvar 7) (.cons (.lit 1) (.cons (.lit 3) .nil))) 4) (.consb (.getb (.lvar 7) (.mix (.lvar 7) (.cons (.lit 1) (.cons (.lit 3) .nil))) 5) .nil))))) (.consl (.lput (.lvar 7) (.mix (.lvar 7) (.cons (.lit 1) (.cons (.lit 9) .nil))) (.cons (.lit 1) (.cons (.lit 9) (.cons (.get (.lvar 5) (.var 6) 0) (.cons (.get (.lvar 5) (.var 6) 1) (.cons (.get (.lvar 5) (.var 6) 2) (.consb (.getb (.lvar 5) (.var 6) 3) .nil))))))) (.cons (.ite (.eq (.get (.lvar 5) (.var 6) 0) (.lit 0)) (.lit 1) (.var 8)) (.cons (.ite (.eq (.get (.lvar 5) (.var 6) 0) (.lit 0)) (.lit 9) (.var 9)) (.cons (.ite (.eq (.get (.lvar 5) (.var 6) 0) (.lit 1)) (.lit 1) (.var 10)) (.cons (.ite (.eq (.get (.lvar 5) (.var 6) 0) (.lit 1)) (.lit 9) (.var 11)) (.cons (.ite (.eq (.get (.lvar 5) (.var 6) 0) (.lit 2)) (.lit 1) (.var 12)) (.cons (.ite (.eq (.get (.lvar 5) (.var 6) 0) (.lit 2)) (.lit 9) (.var 13)) (.cons (.ite (.eq (.get (.lvar 5) (.var 6) 0) (.lit 3)) (.lit 1) (.var 14)) (.cons (.ite (.eq (.get (.lvar 5) (.var 6) 0) (.lit 3)) (.lit 9) (.var 15)) (.cons (.ite (.eq (.get (.lvar 5) (.var 6) 0) (.lit 4)) (.lit 1) (.var 16)) (.cons (.ite (.eq (.get (.lvar 5) (.var 6) 0) (.lit 4)) (.lit 9) (.var 17)) (.cons (.ite (.eq (.get (.lvar 5) (.var 6) 0) (.lit 5)) (.lit 1) (.var 18)) (.cons (.ite (.eq (.get (.lvar 5) (.var 6) 0) (.lit 5)) (.lit 9) (.var 19)) (.cons (.ite (.eq (.get (.lvar 5) (.var 6) 0) (.lit 6)) (.lit 1) (.var 20)) (.cons (.ite (.eq (.get (.lvar 5) (.var 6) 0) (.lit 6)) (.lit 9) (.var 21)) (.cons (.ite (.eq (.get (.lvar 5) (.var 6) 0) (.lit 7)) (.lit 1) (.var 22)) (.cons (.ite (.eq (.get (.lvar 5) (.var 6) 0) (.lit 7)) (.lit 9) (.var 23)) (.cons (.ite (.eq (.get (.lvar 5) (.var 6) 0) (.lit 8)) (.lit 1) (.var 24)) (.cons (.ite (.eq (.get (.lvar 5) (.var 6) 0) (.lit 8)) (.lit 9) (.var 25)) (.cons (.ite (.eq (.get (.lvar 5) (.var 6) 0) (.lit 9)) (.lit 1) (.var 26)) (.cons (.ite (.eq (.get (.lvar 5) (.var 6) 0) (.lit 9)) (.lit 9) (.var 27)) (.cons (.ite (.eq (.get (.lvar 5) (.var 6) 0) (.lit 10)) (.lit 1) (.var 28)) (.cons (.ite (.eq (.get (.lvar 5) (.var 6) 0) (.lit 10)) (.lit 9) (.var 29)) .nil))))))))))))))))))))))))))
.panic))
(.next 3 (.consb (.tt false) (.consl (.lapp (.lapp (.lapp .lnil (.cons (.get (.lvar 5) (.var 6) 0) (.cons (.get (.lvar 5) (.var 6) 1) (.cons (.get (.lvar 5) (.var 6) 2) (.consb (.getb (.lvar 5) (.var 6) 3) .nil))))) (.cons (.get (.lvar 7) (.mix (.lvar 7) (.cons (.lit 1) (.cons (.lit 3) .nil))) 2) (.cons (.get (.lvar 7) (.mix (.lvar 7) (.cons (.lit 1) (.cons (.lit 3) .nil))) 3) (.cons (.get (.lvar 7) (.mix (.lvar 7) (.cons (.lit 1) (.cons (.lit 3) .nil))) 4) (.consb (.getb (.lvar 7) (.mix (.lvar 7) (.cons (.lit 1) (.cons (.lit 3) .nil))) 5) .nil))))) (.cons (.get (.lvar 7) (.mix (.lvar 7) (.cons (.lit 1) (.cons (.lit 9) .nil))) 2) (.cons (.get (.lvar 7) (.mix (.lvar 7) (.cons (.lit 1) (.cons (.lit 9) .nil))) 3) (.cons (.get (.lvar 7) (.mix (.lvar 7) (.cons (.lit 1) (.cons (.lit 9) .nil))) 4) (.consb (.getb (.lvar 7) (.mix (.lvar 7) (.cons (.lit 1) (.cons (.lit 9) .nil))) 5) .nil))))) (.consl (.lvar 7) (.vs 8 22 .nil))))))
(.br (.lt (.len (.lvar 7)) (.lit 1073741824))
(.br (.lt (.get (.lvar 5) (.var 6) 0) (.lit 0))
.panic
(.br (.lt (.get (.lvar 5) (.var 6) 0) (.lit 11))
(.next 3 (.consb (.tt true) (.consl (.lapp (.lapp .lnil (.cons (.get (.lvar 5) (.var 6) 0) (.cons (.get (.lvar 5) (.var 6) 1) (.cons (.get (.lvar 5) (.var 6) 2) (.consb (.getb (.lvar 5) (.var 6) 3) .nil))))) (.cons (.get (.lvar 7) (.mix (.lvar 7) (.cons (.lit 1) (.cons (.lit 3) .nil))) 2) (.cons (.get (.lvar 7) (.mix (.lvar 7) (.cons (.lit 1) (.cons (.lit 3) .nil))) 3) (.cons (.get (.lvar 7) (.mix (.lvar 7) (.cons (.lit 1) (.cons (.lit 3) .nil))) 4) (.consb (.getb (.lvar 7) (.mix (.lvar 7) (.cons (.lit 1) (.cons (.lit 3) .nil))) 5) .nil))))) (.consl (.lapp (.lvar 7) (.cons (.lit 1) (.cons (.lit 9) (.cons (.get (.lvar 5) (.var 6) 0) (.cons (.get (.lvar 5) (.var 6) 1) (.cons (.get (.lvar 5) (.var 6) 2) (.consb (.getb (.lvar 5) (.var 6) 3) .nil))))))) (.cons (.ite (.eq (.get (.lvar 5) (.var 6) 0) (.lit 0)) (.lit 1) (.var 8)) (.cons (.ite (.eq (.get (.lvar 5) (.var 6) 0) (.lit 0)) (.lit 9) (.var 9)) (.cons (.ite (.eq (.get (.lvar 5) (.var 6) 0) (.lit 1)) (.lit 1) (.var 10)) (.cons (.ite (.eq (.get (.lvar 5) (.var 6) 0) (.lit 1)) (.lit 9) (.var 11)) (.cons (.ite (.eq (.get (.lvar 5) (.var 6) 0) (.lit 2)) (.lit 1) (.var 12)) (.cons (.ite (.eq (.get (.lvar 5) (.var 6) 0) (.lit 2)) (.lit 9) (.var 13)) (.cons (.ite (.eq (.get (.lvar 5) (.var 6) 0) (.lit 3)) (.lit 1) (.var 14)) (.cons (.ite (.eq (.get (.lvar 5) (.var 6) 0) (.lit 3)) (.lit 9) (.var 15)) (.cons (.ite (.eq (.get (.lvar 5) (.var 6) 0) (.lit 4)) (.lit 1) (.var 16)) (.cons (.ite (.eq (.get (.lvar 5) (.var 6) 0) (.lit 4)) (.lit 9) (.var 17)) (.cons (.ite (.eq (.get (.lvar 5) (.var 6) 0) (.lit 5)) (.lit 1) (.var 18)) (.cons (.ite (.eq (.get (.lvar 5) (.var 6) 0) (.lit 5)) (.lit 9) (.var 19)) (.cons (.ite (.eq (.get (.lvar 5) (.var 6) 0) (.lit 6)) (.lit 1) (.var 20)) (.cons (.ite (.eq (.get (.lvar 5) (.var 6) 0) (.lit 6)) (.lit 9) (.var 21)) (.cons (.ite (.eq (.get (.lvar 5) (.var 6) 0) (.lit 7)) (.lit 1) (.var 22)) (.cons (.ite (.eq (.get (.lvar 5) (.var 6) 0) (.lit 7)) (.lit 9) (.var 23)) (.cons (.ite (.eq (.get (.lvar 5) (.var 6) 0) (.lit 8)) (.lit 1) (.var 24)) (.cons (.ite (.eq (.get (.lvar 5) (.var 6) 0) (.lit 8)) (.lit 9) (.var 25)) (.cons (.ite (.eq (.get (.lvar 5) (.var 6) 0) (.lit 9)) (.lit 1) (.var 26)) (.cons (.ite (.eq (.get (.lvar 5) (.var 6) 0) (.lit 9)) (.lit 9) (.var 27)) (.cons (.ite (.eq (.get (.lvar 5) (.var 6) 0) (.lit 10)) (.lit 1) (.var 28)) (.cons (.ite (.eq (.get (.lvar 5) (.var 6) 0) (.lit 10)) (.lit 9) (.var 29)) .nil))))))))))))))))))))))))))
.panic))
(.stuck 130))))
(.br (.lt (.len (.lvar 7)) (.lit 1073741824))
(.br (.lt (.get (.lvar 5) (.var 6) 0) (.lit 0))
.panic
(.br (.lt (.get (.lvar 5) (.var 6) 0) (.lit 11))
(.next 3 (.consb (.tt true) (.consl (.lapp .lnil (.cons (.get (.lvar 5) (.var 6) 0) (.cons (.get (.lvar 5) (.var 6) 1) (.cons (.get (.lvar 5) (.var 6) 2) (.consb (.getb (.lvar 5) (.var 6) 3) .nil))))) (.consl (.lapp (.lvar 7) (.cons (.lit 1) (.cons (.lit 3) (.cons (.get (.lvar 5) (.var 6) 0) (.cons (.get (.lvar 5) (.var 6) 1) (.cons (.get (.lvar 5) (.var 6) 2) (.consb (.getb (.lvar 5) (.var 6) 3) .nil))))))) (.cons (.ite (.eq (.get (.lvar 5) (.var 6) 0) (.lit 0)) (.lit 1) (.var 8)) (.cons (.ite (.eq (.get (.lvar 5) (.var 6) 0) (.lit 0)) (.lit 3) (.var 9)) (.cons (.ite (.eq (.get (.lvar 5) (.var 6) 0) (.lit 1)) (.lit 1) (.var 10)) (.cons (.ite (.eq (.get (.lvar 5) (.var 6) 0) (.lit 1)) (.lit 3) (.var 11)) (.cons (.ite (.eq (.get (.lvar 5) (.var 6) 0) (.lit 2)) (.lit 1) (.var 12)) (.cons (.ite (.eq (.get (.lvar 5) (.var 6) 0) (.lit 2)) (.lit 3) (.var 13)) (.cons (.ite (.eq (.get (.lvar 5) (.var 6) 0) (.lit 3)) (.lit 1) (.var 14)) (.cons (.ite (.eq (.get (.lvar 5) (.var 6) 0) (.lit 3)) (.lit 3) (.var 15)) (.cons (.ite (.eq (.get (.lvar 5) (.var 6) 0) (.lit 4)) (.lit 1) (.var 16)) (.cons (.ite (.eq (.get (.lvar 5) (.var 6) 0) (.lit 4)) (.lit 3) (.var 17)) (.cons (.ite (.eq (.get (.lvar 5) (.var 6) 0) (.lit 5)) (.lit 1) (.var 18)) (.cons (.ite (.eq (.get (.lvar 5) (.var 6) 0) (.lit 5)) (.lit 3) (.var 19)) (.cons (.ite (.eq (.get (.lvar 5) (.var 6) 0) (.lit 6)) (.lit 1) (.var 20)) (.cons (.ite (.eq (.get (.lvar 5) (.var 6) 0) (.lit 6)) (.lit 3) (.var 21)) (.cons (.ite (.eq (.get (.lvar 5) (.var 6) 0) (.lit 7)) (.lit 1) (.var 22)) (.cons (.ite (.eq (.get (.lvar 5) (.var 6) 0) (.lit 7)) (.lit 3) (.var 23)) (.cons (.ite (.eq (.get (.lvar 5) (.var 6) 0) (.lit 8)) (.lit 1) (.var 24)) (.cons (.ite (.eq (.get (.lvar 5) (.var 6) 0) (.lit 8)) (.lit 3) (.var 25)) (.cons (.ite (.eq (.get (.lvar 5) (.var 6) 0) (.lit 9)) (.lit 1) (.var 26)) (.cons (.ite (.eq (.get (.lvar 5) (.var 6) 0) (.lit 9)) (.lit 3) (.var 27)) (.cons (.ite (.eq (.get (.lvar 5) (.var 6) 0) (.lit 10)) (.lit 1) (.var 28)) (.cons (.ite (.eq (.get (.lvar 5) (.var 6) 0) (.lit 10)) (.lit 3) (.var 29)) .nil))))))))))))))))))))))))))
.panic))
(.stuck 130)))
(.br (.lt (.mix (.lvar 7) (.cons (.lit 1) (.cons (.lit 3) .nil))) (.len (.lvar 7)))
(.br (.lt (.get (.lvar 7) (.mix (.lvar 7) (.cons (.lit 1) (.cons (.lit 3) .nil))) 4) (.get (.lvar 5) (.var 6) 1))
(.br (.lt (.get (.lvar 5) (.var 6) 0) (.lit 0))
.panic
(.br (.lt (.get (.lvar 5) (.var 6) 0) (.lit 11))
(.next 3 (.consb (.tt true) (.consl (.lapp .lnil (.cons (.get (.lvar 5) (.var 6) 0) (.cons (.get (.lvar 5) (.var 6) 1) (.cons (.get (.lvar 5) (.var 6) 2) (.consb (.getb (.lvar 5) (.var 6) 3) .nil))))) (.consl (.lput (.lvar 7) (.mix (.lvar 7) (.cons (.lit 1) (.cons (.lit 3) .nil))) (.cons (.lit 1) (.cons (.lit 3) (.cons (.get (.lvar 5) (.var 6) 0) (.cons (.get (.lvar 5) (.var 6) 1) (.cons (.get (.lvar 5) (.var 6) 2) (.consb (.getb (.lvar 5) (.var 6) 3) .nil))))))) (.cons (.ite (.eq (.get (.lvar 5) (.var 6) 0) (.lit 0)) (.lit 1) (.var 8)) (.cons (.ite (.eq (.get (.lvar 5) (.var 6) 0) (.lit 0)) (.lit 3) (.var 9)) (.cons (.ite (.eq (.get (.lvar 5) (.var 6) 0) (.lit 1)) (.lit 1) (.var 10)) (.cons (.ite (.eq (.get (.lvar 5) (.var 6) 0) (.lit 1)) (.lit 3) (.var 11)) (.cons (.ite (.eq (.get (.lvar 5) (.var 6) 0) (.lit 2)) (.lit 1) (.var 12)) (.cons (.ite (.eq (.get (.lvar 5) (.var 6) 0) (.lit 2)) (.lit 3) (.var 13)) (.cons (.ite (.eq (.get (.lvar 5) (.var 6) 0) (.lit 3)) (.lit 1) (.var 14)) (.cons (.ite (.eq (.get (.lvar 5) (.var 6) 0) (.lit 3)) (.lit 3) (.var 15)) (.cons (.ite (.eq (.get (.lvar 5) (.var 6) 0) (.lit 4)) (.lit 1) (.var 16)) (.cons (.ite (.eq (.get (.lvar 5) (.var 6) 0) (.lit 4)) (.lit 3) (.var 17)) (.cons (.ite (.eq (.get (.lvar 5) (.var 6) 0) (.lit 5)) (.lit 1) (.var 18)) (.cons (.ite (.eq (.get (.lvar 5) (.var 6) 0) (.lit 5)) (.lit 3) (.var 19)) (.cons (.ite (.eq (.get (.lvar 5) (.var 6) 0) (.lit 6)) (.lit 1) (.var 20)) (.cons (.ite (.eq (.get (.lvar 5) (.var 6) 0) (.lit 6)) (.lit 3) (.var 21)) (.cons (.ite (.eq (.get (.lvar 5) (.var 6) 0) (.lit 7)) (.lit 1) (.var 22)) (.cons (.ite (.eq (.get (.lvar 5) (.var 6) 0) (.lit 7)) (.lit 3) (.var 23)) (.cons (.ite (.eq (.get (.lvar 5) (.var 6) 0) (.lit 8)) (.lit 1) (.var 24)) (.cons (.ite (.eq (.get (.lvar 5) (.var 6) 0) (.lit 8)) (.lit 3) (.var 25)) (.cons (.ite (.eq (.get (.lvar 5) (.var 6) 0) (.lit 9)) (.lit 1) (.var 26)) (.cons (.ite (.eq (.get (.lvar 5) (.var 6) 0) (.lit 9)) (.lit 3) (.var 27)) (.cons (.ite (.eq (.get (.lvar 5) (.var 6) 0) (.lit 10)) (.lit 1) (.var 28)) (.cons (.ite (.eq (.get (.lvar 5) (.var 6) 0) (.lit 10)) (.lit 3) (.var 29)) .nil))))))))))))))))))))))))))
.panic))
(.br (.lt (.mix (.lvar 7) (.cons (.lit 1) (.cons (.lit 9) .nil))) (.len (.lvar 7)))
(.br (.lt (.get (.lvar 7) (.mix (.lvar 7) (.cons (.lit 1) (.cons (.lit 9) .nil))) 4) (.get (.lvar 5) (.var 6) 1))
(.br (.lt (.get (.lvar 5) (.var 6) 0) (.lit 0))
.panic
(.br (.lt (.get (.lvar 5) (.var 6) 0) (.lit 11))
(.next 3 (.consb (.tt true) (.consl (.lapp (.lapp .lnil (.cons (.get (.lvar 5) (.var 6) 0) (.cons (.get (.lvar 5) (.var 6) 1) (.cons (.get (.lvar 5) (.var 6) 2) (.consb (.getb (.lvar 5) (.var 6) 3) .nil))))) (.cons (.get (.lvar 7) (.mix (.lvar 7) (.cons (.lit 1) (.cons (.lit 3) .nil))) 2) (.cons (.get (.lvar 7) (.mix (.lvar 7) (.cons (.lit 1) (.cons (.lit 3) .nil))) 3) (.cons (.get (.lvar 7) (.mix (.lvar 7) (.cons (.lit 1) (.cons (.lit 3) .nil))) 4) (.consb (.getb (.lvar 7) (.mix (.lvar 7) (.cons (.lit 1) (.cons (.lit 3) .nil))) 5) .nil))))) (.consl (.lput (.lvar 7) (.mix (.lvar 7) (.cons (.lit 1) (.cons (.lit 9) .nil))) (.cons (.lit 1) (.cons (.lit 9) (.cons (.get (.lvar 5) (.var 6) 0) (.cons (.get (.lvar 5) (.var 6) 1) (.cons (.get (.lvar 5) (.var 6) 2) (.consb (.getb (.lvar 5) (.var 6) 3) .nil))))))) (.cons (.ite (.eq (.get (.lvar 5) (.var 6) 0) (.lit 0)) (.lit 1) (.var 8)) (.cons (.ite (.eq (.get (.lvar 5) (.var 6) 0) (.lit 0)) (.lit 9) (.var 9)) (.cons (.ite (.eq (.get (.lvar 5) (.var 6) 0) (.lit 1)) (.lit 1) (.var 10)) (.cons (.ite (.eq (.get (.lvar 5) (.var 6) 0) (.lit 1)) (.lit 9) (.var 11)) (.cons (.ite (.eq (.get (.lvar 5) (.var 6) 0) (.lit 2)) (.lit 1) (.var 12)) (.cons (.ite (.eq (.get (.lvar 5) (.var 6) 0) (.lit 2)) (.lit 9) (.var 13)) (.cons (.ite (.eq (.get (.lvar 5) (.var 6) 0) (.lit 3)) (.lit 1) (.var 14)) (.cons (.ite (.eq (.get (.lvar 5) (.var 6) 0) (.lit 3)) (.lit 9) (.var 15)) (.cons (.ite (.eq (.get (.lvar 5) (.var 6) 0) (.lit 4)) (.lit 1) (.var 16)) (.cons (.ite (.eq (.get (.lvar 5) (.var 6) 0) (.lit 4)) (.lit 9) (.var 17)) (.cons (.ite (.eq (.get (.lvar 5) (.var 6) 0) (.lit 5)) (.lit 1) (.var 18)) (.cons (.ite (.eq (.get (.lvar 5) (.var 6) 0) (.lit 5)) (.lit 9) (.var 19)) (.cons (.ite (.eq (.get (.lvar 5) (.var 6) 0) (.lit 6)) (.lit 1) (.var 20)) (.cons (.ite (.eq (.get (.lvar 5) (.var 6) 0) (.lit 6)) (.lit 9) (.var 21)) (.cons (.ite (.eq (.get (.lvar 5) (.var 6) 0) (.lit 7)) (.lit 1) (.var 22)) (.cons (.ite (.eq (.get (.lvar 5) (.var 6) 0) (.lit 7)) (.lit 9) (.var 23)) (.cons (.ite (.eq (.get (.lvar 5) (.var 6) 0) (.lit 8)) (.lit 1) (.var 24)) (.cons (.ite (.eq (.get (.lvar 5) (.var 6) 0) (.lit 8)) (.lit 9) (.var 25)) (.cons (.ite (.eq (.get (.lvar 5) (.var 6) 0) (.lit 9)) (.lit 1) (.var 26)) (.cons (.ite (.eq (.get (.lvar 5) (.var 6) 0) (.lit 9)) (.lit 9) (.var 27)) (.cons (.ite (.eq (.get (.lvar 5) (.var 6) 0) (.lit 10)) (.lit 1) (.var 28)) (.cons (.ite (.eq (.get (.lvar 5) (.var 6) 0) (.lit 10)) (.lit 9) (.var 29)) .nil))))))))))))))))))))))))))
.panic))
(.br (.lt (.mix (.lvar 7) (.cons (.lit 1) (.cons (.lit 6) .nil))) (.len (.lvar 7)))
(.br (.lt (.get (.lvar 7) (.mix (.lvar 7) (.cons (.lit 1) (.cons (.lit 6) .nil))) 4) (.get (.lvar 5) (.var 6) 1))
(.br (.lt (.get (.lvar 5) (.var 6) 0) (.lit 0))
.panic
(.br (.lt (.get (.lvar 5) (.var 6) 0) (.lit 11))
(.next 3 (.consb (.tt true) (.consl (.lapp (.lapp (.lapp .lnil (.cons (.get (.lvar 5) (.var 6) 0) (.cons (.get (.lvar 5) (.var 6) 1) (.cons (.get (.lvar 5) (.var 6) 2) (.consb (.getb (.lvar 5) (.var 6) 3) .nil))))) (.cons (.get (.lvar 7) (.mix (.lvar 7) (.cons (.lit 1) (.cons (.lit 3) .nil))) 2) (.cons (.get (.lvar 7) (.mix (.lvar 7) (.cons (.lit 1) (.cons (.lit 3) .nil))) 3) (.cons (.get (.lvar 7) (.mix (.lvar 7) (.cons (.lit 1) (.cons (.lit 3) .nil))) 4) (.consb (.getb (.lvar 7) (.mix (.lvar 7) (.cons (.lit 1) (.cons (.lit 3) .nil))) 5) .nil))))) (.cons (.get (.lvar 7) (.mix (.lvar 7) (.cons (.lit 1) (.cons (.lit 9) .nil))) 2) (.cons (.get (.lvar 7) (.mix (.lvar 7) (.cons (.lit 1) (.cons (.lit 9) .nil))) 3) (.cons (.get (.lvar 7) (.mix (.lvar 7) (.cons (.lit 1) (.cons (.lit 9) .nil))) 4) (.consb (.getb (.lvar 7) (.mix (.lvar 7) (.cons (.lit 1) (.cons (.lit 9) .nil))) 5) .nil))))) (.consl (.lput (.lvar 7) (.mix (.lvar 7) (.cons (.lit 1) (.cons (.lit 6) .nil))) (.cons (.lit 1) (.cons (.lit 6) (.cons (.get (.lvar 5) (.var 6) 0) (.cons (.get (.lvar 5) (.var 6) 1) (.cons (.get (.lvar 5) (.var 6) 2) (.consb (.getb (.lvar 5) (.var 6) 3) .nil))))))) (.cons (.ite (.eq (.get (.lvar 5) (.var 6) 0) (.lit 0)) (.lit 1) (.var 8)) (.cons (.ite (.eq (.get (.lvar 5) (.var 6) 0) (.lit 0)) (.lit 6) (.var 9)) (.cons (.ite (.eq (.get (.lvar 5) (.var 6) 0) (.lit 1)) (.lit 1) (.var 10)) (.cons (.ite (.eq (.get (.lvar 5) (.var 6) 0) (.lit 1)) (.lit 6) (.var 11)) (.cons (.ite (.eq (.get (.lvar 5) (.var 6) 0) (.lit 2)) (.lit 1) (.var 12)) (.cons (.ite (.eq (.get (.lvar 5) (.var 6) 0) (.lit 2)) (.lit 6) (.var 13)) (.cons (.ite (.eq (.get (.lvar 5) (.var 6) 0) (.lit 3)) (.lit 1) (.var 14)) (.cons (.ite (.eq (.get (.lvar 5) (.var 6) 0) (.lit 3)) (.lit 6) (.var 15)) (.cons (.ite (.eq (.get (.lvar 5) (.var 6) 0) (.lit 4)) (.lit 1) (.var 16)) (.cons (.ite (.eq (.get (.lvar 5) (.var 6) 0) (.lit 4)) (.lit 6) (.var 17)) (.cons (.ite (.eq (.get (.lvar 5) (.var 6) 0) (.lit 5)) (.lit 1) (.var 18)) (.cons (.ite (.eq (.get (.lvar 5) (.var 6) 0) (.lit 5)) (.lit 6) (.var 19)) (.cons (.ite (.eq (.get (.lvar 5) (.var 6) 0) (.lit 6)) (.lit 1) (.var 20)) (.cons (.ite (.eq (.get (.lvar 5) (.var 6) 0) (.lit 6)) (.lit 6) (.var 21)) (.cons (.ite (.eq (.get (.lvar 5) (.var 6) 0) (.lit 7)) (.lit 1) (.var 22)) (.cons (.ite (.eq (.get (.lvar 5) (.var 6) 0) (.lit 7)) (.lit 6) (.var 23)) (.cons (.ite (.eq (.get (.lvar 5) (.var 6) 0) (.lit 8)) (.lit 1) (.var 24)) (.cons (.ite (.eq (.get (.lvar 5) (.var 6) 0) (.lit 8)) (.lit 6) (.var 25)) (.cons (.ite (.eq (.get (.lvar 5) (.var 6) 0) (.lit 9)) (.lit 1) (.var 26)) (.cons (.ite (.eq (.get (.lvar 5) (.var 6) 0) (.lit 9)) (.lit 6) (.var 27)) (.cons (.ite (.eq (.get (.lvar 5) (.var 6) 0) (.lit 10)) (.lit 1) (.var 28)) (.cons (.ite (.eq (.get (.lvar 5) (.var 6) 0) (.lit 10)) (.lit 6) (.var 29)) .nil))))))))))))))))))))))))))
.panic))
(.br (.lt (.mix (.lvar 7) (.cons (.lit 1) (.cons (.lit 7) .nil))) (.len (.lvar 7)))
(.br (.lt (.get (.lvar 7) (.mix (.lvar 7) (.cons (.lit 1) (.cons (.lit 7) .nil))) 4) (.get (.lvar 5) (.var 6) 1))
(.br (.lt (.get (.lvar 5) (.var 6) 0) (.lit 0))
.panic
(.br (.lt (.get (.lvar 5) (.var 6) 0) (.lit 11))
(.next 3 (.consb (.tt true) (.consl (.lapp (.lapp (.lapp (.lapp .lnil (.cons (.get (.lvar 5) (.var 6) 0) (.cons (.get (.lvar 5) (.var 6) 1) (.cons (.get (.lvar 5) (.var 6) 2) (.consb (.getb (.lvar 5) (.var 6) 3) .nil))))) (.cons (.get (.lvar 7) (.mix (.lvar 7) (.cons (.lit 1) (.cons (.lit 3) .nil))) 2) (.cons (.get (.lvar 7) (.mix (.lvar 7) (.cons (.lit 1) (.cons (.lit 3) .nil))) 3) (.cons (.get (.lvar 7) (.mix (.lvar 7) (.cons (.lit 1) (.cons (.lit 3) .nil))) 4) (.consb (.getb (.lvar 7) (.mix (.lvar 7) (.cons (.lit 1) (.cons (.lit 3) .nil))) 5) .nil))))) (.cons (.get (.lvar 7) (.mix (.lvar 7) (.cons (.lit 1) (.cons (.lit 9) .nil))) 2) (.cons (.get (.lvar 7) (.mix (.lvar 7) (.cons (.lit 1) (.cons (.lit 9) .nil))) 3) (.cons (.get (.lvar 7) (.mix (.lvar 7) (.cons (.lit 1) (.cons (.lit 9) .nil))) 4) (.consb (.getb (.lvar 7) (.mix (.lvar 7) (.cons (.lit 1) (.cons (.lit 9) .nil))) 5) .nil))))) (.cons (.get (.lvar 7) (.mix (.lvar 7) (.cons (.lit 1) (.cons (.lit 6) .nil))) 2) (.cons (.get (.lvar 7) (.mix (.lvar 7) (.cons (.lit 1) (.cons (.lit 6) .nil))) 3) (.cons (.get (.lvar 7) (.mix (.lvar 7) (.cons (.lit 1) (.cons (.lit 6) .nil))) 4) (.consb (.getb (.lvar 7) (.mix (.lvar 7) (.cons (.lit 1) (.cons (.lit 6) .nil))) 5) .nil))))) (.consl (.lput (.lvar 7) (.mix (.lvar 7) (.cons (.lit 1) (.cons (.lit 7) .nil))) (.cons (.lit 1) (.cons (.lit 7) (.cons (.get (.lvar 5) (.var 6) 0) (.cons (.get (.lvar 5) (.var 6) 1) (.cons (.get (.lvar 5) (.var 6) 2) (.consb (.getb (.lvar 5) (.var 6) 3) .nil))))))) (.cons (.ite (.eq (.get (.lvar 5) (.var 6) 0) (.lit 0)) (.lit 1) (.var 8)) (.cons (.ite (.eq (.get (.lvar 5) (.var 6) 0) (.lit 0)) (.lit 7) (.var 9)) (.cons (.ite (.eq (.get (.lvar 5) (.var 6) 0) (.lit 1)) (.lit 1) (.var 10)) (.cons (.ite (.eq (.get (.lvar 5) (.var 6) 0) (.lit 1)) (.lit 7) (.var 11)) (.cons (.ite (.eq (.get (.lvar 5) (.var 6) 0) (.lit 2)) (.lit 1) (.var 12)) (.cons (.ite (.eq (.get (.lvar 5) (.var 6) 0) (.lit 2)) (.lit 7) (.var 13)) (.cons (.ite (.eq (.get (.lvar 5) (.var 6) 0) (.lit 3)) (.lit 1) (.var 14)) (.cons (.ite (.eq (.get (.lvar 5) (.var 6) 0) (.lit 3)) (.lit 7) (.var 15)) (.cons (.ite (.eq (.get (.lvar 5) (.var 6) 0) (.lit 4)) (.lit 1) (.var 16)) (.cons (.ite (.eq (.get (.lvar 5) (.var 6) 0) (.lit 4)) (.lit 7) (.var 17)) (.cons (.ite (.eq (.get (.lvar 5) (.var 6) 0) (.lit 5)) (.lit 1) (.var 18)) (.cons (.ite (.eq (.get (.lvar 5) (.var 6) 0) (.lit 5)) (.lit 7) (.var 19)) (.cons (.ite (.eq (.get (.lvar 5) (.var 6) 0) (.lit 6)) (.lit 1) (.var 20)) (.cons (.ite (.eq (.get (.lvar 5) (.var 6) 0) (.lit 6)) (.lit 7) (.var 21)) (.cons (.ite (.eq (.get (.lvar 5) (.var 6) 0) (.lit 7)) (.lit 1) (.var 22)) (.cons (.ite (.eq (.get (.lvar 5) (.var 6) 0) (.lit 7)) (.lit 7) (.var 23)) (.cons (.ite (.eq (.get (.lvar 5) (.var 6) 0) (.lit 8)) (.lit 1) (.var 24)) (.cons (.ite (.eq (.get (.lvar 5) (.var 6) 0) (.lit 8)) (.lit 7) (.var 25)) (.cons (.ite (.eq (.get (.lvar 5) (.var 6) 0) (.lit 9)) (.lit 1) (.var 26)) (.cons (.ite (.eq (.get (.lvar 5) (.var 6) 0) (.lit 9)) (.lit 7) (.var 27)) (.cons (.ite (.eq (.get (.lvar 5) (.var 6) 0) (.lit 10)) (.lit 1) (.var 28)) (.cons (.ite (.eq (.get (.lvar 5) (.var 6) 0) (.lit 10)) (.lit 7) (.var 29)) .nil))))))))))))))))))))))))))
.panic))
(.br (.lt (.mix (.lvar 7) (.cons (.lit 1) (.cons (.lit 8) .nil))) (.len (.lvar 7)))
(.br (.lt (.get (.lvar 7) (.mix (.lvar 7) (.cons (.lit 1) (.cons (.lit 8) .nil))) 4) (.get (.lvar 5) (.var 6) 1))
(.br (.lt (.get (.lvar 5) (.var 6) 0) (.lit 0))
.panic
(.br (.lt (.get (.lvar 5) (.var 6) 0) (.lit 11))
(.next 3 (.consb (.tt true) (.consl (.lapp (.lapp (.lapp (.lapp (.lapp .lnil (.cons (.get (.lvar 5) (.var 6) 0) (.cons (.get (.lvar 5) (.var 6) 1) (.cons (.get (.lvar 5) (.var 6) 2) (.consb (.getb (.lvar 5) (.var 6) 3) .nil))))) (.cons (.get (.lvar 7) (.mix (.lvar 7) (.cons (.lit 1) (.cons (.lit 3) .nil))) 2) (.cons (.get (.lvar 7) (.mix (.lvar 7) (.cons (.lit 1) (.cons (.lit 3) .nil))) 3) (.cons (.get (.lvar 7) (.mix (.lvar 7) (.cons (.lit 1) (.cons (.lit 3) .nil))) 4) (.consb (.getb (.lvar 7) (.mix (.lvar 7) (.cons (.lit 1) (.cons (.lit 3) .nil))) 5) .nil))))) (.cons (.get (.lvar 7) (.mix (.lvar 7) (.cons (.lit 1) (.cons (.lit 9) .nil))) 2) (.cons (.get (.lvar 7) (.mix (.lvar 7) (.cons (.lit 1) (.cons (.lit 9) .nil))) 3) (.cons (.get (.lvar 7) (.mix (.lvar 7) (.cons (.lit 1) (.cons (.lit 9) .nil))) 4) (.consb (.getb (.lvar 7) (.mix (.lvar 7) (.cons (.lit 1) (.cons (.lit 9) .nil))) 5) .nil))))) (.cons (.get (.lvar 7) (.mix (.lvar 7) (.cons (.lit 1) (.cons (.lit 6) .nil))) 2) (.cons (.get (.lvar 7) (.mix (.lvar 7) (.cons (.lit 1) (.cons (.lit 6) .nil))) 3) (.cons (.get (.lvar 7) (.mix (.lvar 7) (.cons (.lit 1) (.cons (.lit 6) .nil))) 4) (.consb (.getb (.lvar 7) (.mix (.lvar 7) (.cons (.lit 1) (.cons (.lit 6) .nil))) 5) .nil))))) (.cons (.get (.lvar 7) (.mix (.lvar 7) (.cons (.lit 1) (.cons (.lit 7) .nil))) 2) (.cons (.get (.lvar 7) (.mix (.lvar 7) (.cons (.lit 1) (.cons (.lit 7) .nil))) 3) (.cons (.get (.lvar 7) (.mix (.lvar 7) (.cons (.lit 1) (.cons (.lit 7) .nil))) 4) (.consb (.getb (.lvar 7) (.mix (.lvar 7) (.cons (.lit 1) (.cons (.lit 7) .nil))) 5) .nil))))) (.consl (.lput (.lvar 7) (.mix (.lvar 7) (.cons (.lit 1) (.cons (.lit 8) .nil))) (.cons (.lit 1) (.cons (.lit 8) (.cons (.get (.lvar 5) (.var 6) 0) (.cons (.get (.lvar 5) (.var 6) 1) (.cons (.get (.lvar 5) (.var 6) 2) (.consb (.getb (.lvar 5) (.var 6) 3) .nil))))))) (.cons (.ite (.eq (.get (.lvar 5) (.var 6) 0) (.lit 0)) (.lit 1) (.var 8)) (.cons (.ite (.eq (.get (.lvar 5) (.var 6) 0) (.lit 0)) (.lit 8) (.var 9)) (.cons (.ite (.eq (.get (.lvar 5) (.var 6) 0) (.lit 1)) (.lit 1) (.var 10)) (.cons (.ite (.eq (.get (.lvar 5) (.var 6) 0) (.lit 1)) (.lit 8) (.var 11)) (.cons (.ite (.eq (.get (.lvar 5) (.var 6) 0) (.lit 2)) (.lit 1) (.var 12)) (.cons (.ite (.eq (.get (.lvar 5) (.var 6) 0) (.lit 2)) (.lit 8) (.var 13)) (.cons (.ite (.eq (.get (.lvar 5) (.var 6) 0) (.lit 3)) (.lit 1) (.var 14)) (.cons (.ite (.eq (.get (.lvar 5) (.var 6) 0) (.lit 3)) (.lit 8) (.var 15)) (.cons (.ite (.eq (.get (.lvar 5) (.var 6) 0) (.lit 4)) (.lit 1) (.var 16)) (.cons (.ite (.eq (.get (.lvar 5) (.var 6) 0) (.lit 4)) (.lit 8) (.var 17)) (.cons (.ite (.eq (.get (.lvar 5) (.var 6) 0) (.lit 5)) (.lit 1) (.var 18)) (.cons (.ite (.eq (.get (.lvar 5) (.var 6) 0) (.lit 5)) (.lit 8) (.var 19)) (.cons (.ite (.eq (.get (.lvar 5) (.var 6) 0) (.lit 6)) (.lit 1) (.var 20)) (.cons (.ite (.eq (.get (.lvar 5) (.var 6) 0) (.lit 6)) (.lit 8) (.var 21)) (.cons (.ite (.eq (.get (.lvar 5) (.var 6) 0) (.lit 7)) (.lit 1) (.var 22)) (.cons (.ite (.eq (.get (.lvar 5) (.var 6) 0) (.lit 7)) (.lit 8) (.var 23)) (.cons (.ite (.eq (.get (.lvar 5) (.var 6) 0) (.lit 8)) (.lit 1) (.var 24)) (.cons (.ite (.eq (.get (.lvar 5) (.var 6) 0) (.lit 8)) (.lit 8) (.var 25)) (.cons (.ite (.eq (.get (.lvar 5) (.var 6) 0) (.lit 9)) (.lit 1) (.var 26)) (.cons (.ite (.eq (.get (.lvar 5) (.var 6) 0) (.lit 9)) (.lit 8) (.var 27)) (.cons (.ite (.eq (.get (.lvar 5) (.var 6) 0) (.lit 10)) (.lit 1) (.var 28)) (.cons (.ite (.eq (.get (.lvar 5) (.var 6) 0) (.lit 10)) (.lit 8) (.var 29)) .nil))))))))))))))))))))))))))
.panic))
(.br (.lt (.mix (.lvar 7) (.cons (.lit 1) (.cons (.lit 10) .nil))) (.len (.lvar 7)))
(.br (.lt (.get (.lvar 7) (.mix (.lvar 7) (.cons (.lit 1) (.cons (.lit 10) .nil))) 4) (.get (.lvar 5) (.var 6) 1))
(.br (.lt (.get (.lvar 5) (.var 6) 0) (.lit 0))
.panic
(.br (.lt (.get (.lvar 5) (.var 6) 0) (.lit 11))
(.next 3 (.consb (.tt true) (.consl (.lapp (.lapp (.lapp (.lapp (.lapp (.lapp .lnil (.cons (.get (.lvar 5) (.var 6) 0) (.cons (.get (.lvar 5) (.var 6) 1) (.cons (.get (.lvar 5) (.var 6) 2) (.consb (.getb (.lvar 5) (.var 6) 3) .nil))))) (.cons (.get (.lvar 7) (.mix (.lvar 7) (.cons (.lit 1) (.cons (.lit 3) .nil))) 2) (.cons (.get (.lvar 7) (.mix (.lvar 7) (.cons (.lit 1) (.cons (.lit 3) .nil))) 3) (.cons (.get (.lvar 7) (.mix (.lvar 7) (.cons (.lit 1) (.cons (.lit 3) .nil))) 4) (.consb (.getb (.lvar 7) (.mix (.lvar 7) (.cons (.lit 1) (.cons (.lit 3) .nil))) 5) .nil))))) (.cons (.get (.lvar 7) (.mix (.lvar 7) (.cons (.lit 1) (.cons (.lit 9) .nil))) 2) (.cons (.get (.lvar 7) (.mix (.lvar 7) (.cons (.lit 1) (.cons (.lit 9) .nil))) 3) (.cons (.get (.lvar 7) (.mix (.lvar 7) (.cons (.lit 1) (.cons (.lit 9) .nil))) 4) (.consb (.getb (.lvar 7) (.mix (.lvar 7) (.cons (.lit 1) (.cons (.lit 9) .nil))) 5) .nil))))) (.cons (.get (.lvar 7) (.mix (.lvar 7) (.cons (.lit 1) (.cons (.lit 6) .nil))) 2) (.cons (.get (.lvar 7) (.mix (.lvar 7) (.cons (.lit 1) (.cons (.lit 6) .nil))) 3) (.cons (.get (.lvar 7) (.mix (.lvar 7) (.cons (.lit 1) (.cons (.lit 6) .nil))) 4) (.consb (.getb (.lvar 7) (.mix (.lvar 7) (.cons (.lit 1) (.cons (.lit 6) .nil))) 5) .nil))))) (.cons (.get (.lvar 7) (.mix (.lvar 7) (.cons (.lit 1) (.cons (.lit 7) .nil))) 2) (.cons (.get (.lvar 7) (.mix (.lvar 7) (.cons (.lit 1) (.cons (.lit 7) .nil))) 3) (.cons (.get (.lvar 7) (.mix (.lvar 7) (.cons (.lit 1) (.cons (.lit 7) .nil))) 4) (.consb (.getb (.lvar 7) (.mix (.lvar 7) (.cons (.lit 1) (.cons (.lit 7) .nil))) 5) .nil))))) (.cons (.get (.lvar 7) (.mix (.lvar 7) (.cons (.lit 1) (.cons (.lit 8) .nil))) 2) (.cons (.get (.lvar 7) (.mix (.lvar 7) (.cons (.lit 1) (.cons (.lit 8) .nil))) 3) (.cons (.get (.lvar 7) (.mix (.lvar 7) (.cons (.lit 1) (.cons (.lit 8) .nil))) 4) (.consb (.getb (.lvar 7) (.mix (.lvar 7) (.cons (.lit 1) (.cons (.lit 8) .nil))) 5) .nil))))) (.consl (.lput (.lvar 7) (.mix (.lvar 7) (.cons (.lit 1) (.cons (.lit 10) .nil))) (.cons (.lit 1) (.cons (.lit 10) (.cons (.get (.lvar 5) (.var 6) 0) (.cons (.get (.lvar 5) (.var 6) 1) (.cons (.get (.lvar 5) (.var 6) 2) (.consb (.getb (.lvar 5) (.var 6) 3) .nil))))))) (.cons (.ite (.eq (.get (.lvar 5) (.var 6) 0) (.lit 0)) (.lit 1) (.var 8)) (.cons (.ite (.eq (.get (.lvar 5) (.var 6) 0) (.lit 0)) (.lit 10) (.var 9)) (.cons (.ite (.eq (.get (.lvar 5) (.var 6) 0) (.lit 1)) (.lit 1) (.var 10)) (.cons (.ite (.eq (.get (.lvar 5) (.var 6) 0) (.lit 1)) (.lit 10) (.var 11)) (.cons (.ite (.eq (.get (.lvar 5) (.var 6) 0) (.lit 2)) (.lit 1) (.var 12)) (.cons (.ite (.eq (.get (.lvar 5) (.var 6) 0) (.lit 2)) (.lit 10) (.var 13)) (.cons (.ite (.eq (.get (.lvar 5) (.var 6) 0) (.lit 3)) (.lit 1) (.var 14)) (.cons (.ite (.eq (.get (.lvar 5) (.var 6) 0) (.lit 3)) (.lit 10) (.var 15)) (.cons (.ite (.eq (.get (.lvar 5) (.var 6) 0) (.lit 4)) (.lit 1) (.var 16)) (.cons (.ite (.eq (.get (.lvar 5) (.var 6) 0) (.lit 4)) (.lit 10) (.var 17)) (.cons (.ite (.eq (.get (.lvar 5) (.var 6) 0) (.lit 5)) (.lit 1) (.var 18)) (.cons (.ite (.eq (.get (.lvar 5) (.var 6) 0) (.lit 5)) (.lit 10) (.var 19)) (.cons (.ite (.eq (.get (.lvar 5) (.var 6) 0) (.lit 6)) (.lit 1) (.var 20)) (.cons (.ite (.eq (.get (.lvar 5) (.var 6) 0) (.lit 6)) (.lit 10) (.var 21)) (.cons (.ite (.eq (.get (.lvar 5) (.var 6) 0) (.lit 7)) (.lit 1) (.var 22)) (.cons (.ite (.eq (.get (.lvar 5) (.var 6) 0) (.lit 7)) (.lit 10) (.var 23)) (.cons (.ite (.eq (.get (.lvar 5) (.var 6) 0) (.lit 8)) (.lit 1) (.var 24)) (.cons (.ite (.eq (.get (.lvar 5) (.var 6) 0) (.lit 8)) (.lit 10) (.var 25)) (.cons (.ite (.eq (.get (.lvar 5) (.var 6) 0) (.lit 9)) (.lit 1) (.var 26)) (.cons (.ite (.eq (.get (.lvar 5) (.var 6) 0) (.lit 9)) (.lit 10) (.var 27)) (.cons (.ite (.eq (.get (.lvar 5) (.var 6) 0) (.lit 10)) (.lit 1) (.var 28)) (.cons (.ite (.eq (.get (.lvar 5) (.var 6) 0) (.lit 10)) (.lit 10) (.var 29)) .nil))))))))))))))))))))))))))
.panic))
(.next 3 (.consb (.tt false) (.consl (.lapp (.lapp (.lapp (.lapp (.lapp (.lapp (.lapp .lnil (.cons (.get (.lvar 5) (.var 6) 0) (.cons (.get (.lvar 5) (.var 6) 1) (.cons (.get (.lvar 5) (.var 6) 2) (.consb (.getb (.lvar 5) (.var 6) 3) .nil))))) (.cons (.get (.lvar 7) (.mix (.lvar 7) (.cons (.lit 1) (.cons (.lit 3) .nil))) 2) (.cons (.get (.lvar 7) (.mix (.lvar 7) (.cons (.lit 1) (.cons (.lit 3) .nil))) 3) (.cons (.get (.lvar 7) (.mix (.lvar 7) (.cons (.lit 1) (.cons (.lit 3) .nil))) 4) (.consb (.getb (.lvar 7) (.mix (.lvar 7) (.cons (.lit 1) (.cons (.lit 3) .nil))) 5) .nil))))) (.cons (.get (.lvar 7) (.mix (.lvar 7) (.cons (.lit 1) (.cons (.lit 9) .nil))) 2) (.cons (.get (.lvar 7) (.mix (.lvar 7) (.cons (.lit 1) (.cons (.lit 9) .nil))) 3) (.cons (.get (.lvar 7) (.mix (.lvar 7) (.cons (.lit 1) (.cons (.lit 9) .nil))) 4) (.consb (.getb (.lvar 7) (.mix (.lvar 7) (.cons (.lit 1) (.cons (.lit 9) .nil))) 5) .nil))))) (.cons (.get (.lvar 7) (.mix (.lvar 7) (.cons (.lit 1) (.cons (.lit 6) .nil))) 2) (.cons (.get (.lvar 7) (.mix (.lvar 7) (.cons (.lit 1) (.cons (.lit 6) .nil))) 3) (.cons (.get (.lvar 7) (.mix (.lvar 7) (.cons (.lit 1) (.cons (.lit 6) .nil))) 4) (.consb (.getb (.lvar 7) (.mix (.lvar 7) (.cons (.lit 1) (.cons (.lit 6) .nil))) 5) .nil))))) (.cons (.get (.lvar 7) (.mix (.lvar 7) (.cons (.lit 1) (.cons (.lit 7) .nil))) 2) (.cons (.get (.lvar 7) (.mix (.lvar 7) (.cons (.lit 1) (.cons (.lit 7) .nil))) 3) (.cons (.get (.lvar 7) (.mix (.lvar 7) (.cons (.lit 1) (.cons (.lit 7) .nil))) 4) (.consb (.getb (.lvar 7) (.mix (.lvar 7) (.cons (.lit 1) (.cons (.lit 7) .nil))) 5) .nil))))) (.cons (.get (.lvar 7) (.mix (.lvar 7) (.cons (.lit 1) (.cons (.lit 8) .nil))) 2) (.cons (.get (.lvar 7) (.mix (.lvar 7) (.cons (.lit 1) (.cons (.lit 8) .nil))) 3) (.cons (.get (.lvar 7) (.mix (.lvar 7) (.cons (.lit 1) (.cons (.lit 8) .nil))) 4) (.consb (.getb (.lvar 7) (.mix (.lvar 7) (.cons (.lit 1) (.cons (.lit 8) .nil))) 5) .nil))))) (.cons (.get (.lvar 7) (.mix (.lvar 7) (.cons (.lit 1) (.cons (.lit 10) .nil))) 2) (.cons (.get (.lvar 7) (.mix (.lvar 7) (.cons (.lit 1) (.cons (.lit 10) .nil))) 3) (.cons (.get (.lvar 7) (.mix (.lvar 7) (.cons (.lit 1) (.cons (.lit 10) .nil))) 4) (.consb (.getb (.lvar 7) (.mix (.lvar 7) (.cons (.lit 1) (.cons (.lit 10) .nil))) 5) .nil))))) (.consl (.lvar 7) (.vs 8 22 .nil))))))
(.br (.lt (.len (.lvar 7)) (.lit 1073741824))
(.br (.lt (.get (.lvar 5) (.var 6) 0) (.lit 0))
.panic
(.br (.lt (.get (.lvar 5) (.var 6) 0) (.lit 11))
(.next 3 (.consb (.tt true) (.consl (.lapp (.lapp (.lapp (.lapp (.lapp (.lapp .lnil (.cons (.get (.lvar 5) (.var 6) 0) (.cons (.get (.lvar 5) (.var 6) 1) (.cons (.get (.lvar 5) (.var 6) 2) (.consb (.getb (.lvar 5) (.var 6) 3) .nil))))) (.cons (.get (.lvar 7) (.mix (.lvar 7) (.cons (.lit 1) (.cons (.lit 3) .nil))) 2) (.cons (.get (.lvar 7) (.mix (.lvar 7) (.cons (.lit 1) (.cons (.lit 3) .nil))) 3) (.cons (.get (.lvar 7) (.mix (.lvar 7) (.cons (.lit 1) (.cons (.lit 3) .nil))) 4) (.consb (.getb (.lvar 7) (.mix (.lvar 7) (.cons (.lit 1) (.cons (.lit 3) .nil))) 5) .nil))))) (.cons (.get (.lvar 7) (.mix (.lvar 7) (.cons (.lit 1) (.cons (.lit 9) .nil))) 2) (.cons (.get (.lvar 7) (.mix (.lvar 7) (.cons (.lit 1) (.cons (.lit 9) .nil))) 3) (.cons (.get (.lvar 7) (.mix (.lvar 7) (.cons (.lit 1) (.cons (.lit 9) .nil))) 4) (.consb (.getb (.lvar 7) (.mix (.lvar 7) (.cons (.lit 1) (.cons (.lit 9) .nil))) 5) .nil))))) (.cons (.get (.lvar 7) (.mix (.lvar 7) (.cons (.lit 1) (.cons (.lit 6) .nil))) 2) (.cons (.get (.lvar 7) (.mix (.lvar 7) (.cons (.lit 1) (.cons (.lit 6) .nil))) 3) (.cons (.get (.lvar 7) (.mix (.lvar 7) (.cons (.lit 1) (.cons (.lit 6) .nil))) 4) (.consb (.getb (.lvar 7) (.mix (.lvar 7) (.cons (.lit 1) (.cons (.lit 6) .nil))) 5) .nil))))) (.cons (.get (.lvar 7) (.mix (.lvar 7) (.cons (.lit 1) (.cons (.lit 7) .nil))) 2) (.cons (.get (.lvar 7) (.mix (.lvar 7) (.cons (.lit 1) (.cons (.lit 7) .nil))) 3) (.cons (.get (.lvar 7) (.mix (.lvar 7) (.cons (.lit 1) (.cons (.lit 7) .nil))) 4) (.consb (.getb (.lvar 7) (.mix (.lvar 7) (.cons (.lit 1) (.cons (.lit 7) .nil))) 5) .nil))))) (.cons (.get (.lvar 7) (.mix (.lvar 7) (.cons (.lit 1) (.cons (.lit 8) .nil))) 2) (.cons (.get (.lvar 7) (.mix (.lvar 7) (.cons (.lit 1) (.cons (.lit 8) .nil))) 3) (.cons (.get (.lvar 7) (.mix (.lvar 7) (.cons (.lit 1) (.cons (.lit 8) .nil))) 4) (.consb (.getb (.lvar 7) (.mix (.lvar 7) (.cons (.lit 1) (.cons (.lit 8) .nil))) 5) .nil))))) (.consl (.lapp (.lvar 7) (.cons (.lit 1) (.cons (.lit 10) (.cons (.get (.lvar 5) (.var 6) 0) (.cons (.get (.lvar 5) (.var 6) 1) (.cons (.get (.lvar 5) (.var 6) 2) (.consb (.getb (.lvar 5) (.var 6) 3) .nil))))))) (.cons (.ite (.eq (.get (.lvar 5) (.var 6) 0) (.lit 0)) (.lit 1) (.var 8)) (.cons (.ite (.eq (.get (.lvar 5) (.var 6) 0) (.lit 0)) (.lit 10) (.var 9)) (.cons (.ite (.eq (.get (.lvar 5) (.var 6) 0) (.lit 1)) (.lit 1) (.var 10)) (.cons (.ite (.eq (.get (.lvar 5) (.var 6) 0) (.lit 1)) (.lit 10) (.var 11)) (.cons (.ite (.eq (.get (.lvar 5) (.var 6) 0) (.lit 2)) (.lit 1) (.var 12)) (.cons (.ite (.eq (.get (.lvar 5) (.var 6) 0) (.lit 2)) (.lit 10) (.var 13)) (.cons (.ite (.eq (.get (.lvar 5) (.var 6) 0) (.lit 3)) (.lit 1) (.var 14)) (.cons (.ite (.eq (.get (.lvar 5) (.var 6) 0) (.lit 3)) (.lit 10) (.var 15)) (.cons (.ite (.eq (.get (.lvar 5) (.var 6) 0) (.lit 4)) (.lit 1) (.var 16)) (.cons (.ite (.eq (.get (.lvar 5) (.var 6) 0) (.lit 4)) (.lit 10) (.var 17)) (.cons (.ite (.eq (.get (.lvar 5) (.var 6) 0) (.lit 5)) (.lit 1) (.var 18)) (.cons (.ite (.eq (.get (.lvar 5) (.var 6) 0) (.lit 5)) (.lit 10) (.var 19)) (.cons (.ite (.eq (.get (.lvar 5) (.var 6) 0) (.lit 6)) (.lit 1) (.var 20)) (.cons (.ite (.eq (.get (.lvar 5) (.var 6) 0) (.lit 6)) (.lit 10) (.var 21)) (.cons (.ite (.eq (.get (.lvar 5) (.var 6) 0) (.lit 7)) (.lit 1) (.var 22)) (.cons (.ite (.eq (.get (.lvar 5) (.var 6) 0) (.lit 7)) (.lit 10) (.var 23)) (.cons (.ite (.eq (.get (.lvar 5) (.var 6) 0) (.lit 8)) (.lit 1) (.var 24)) (.cons (.ite (.eq (.get (.lvar 5) (.var 6) 0) (.lit 8)) (.lit 10) (.var 25)) (.cons (.ite (.eq (.get (.lvar 5) (.var 6) 0) (.lit 9)) (.lit 1) (.var 26)) (.cons (.ite (.eq (.get (.lvar 5) (.var 6) 0) (.lit 9)) (.lit 10) (.var 27)) (.cons (.ite (.eq (.get (.lvar 5) (.var 6) 0) (.lit 10)) (.lit 1) (.var 28)) (.cons (.ite (.eq (.get (.lvar 5) (.var 6) 0) (.lit 10)) (.lit 10) (.var 29)) .nil))))))))))))))))))))))))))
.panic))
(.stuck 130))))
(.br (.lt (.len (.lvar 7)) (.lit 1073741824))
(.br (.lt (.get (.lvar 5) (.var 6) 0) (.lit 0))
.panic
(.br (.lt (.get (.lvar 5) (.var 6) 0) (.lit 11))
(.next 3 (.consb (.tt true) (.consl (.lapp (.lapp (.lapp (.lapp (.lapp .lnil (.cons (.get (.lvar 5) (.var 6) 0) (.cons (.get (.lvar 5) (.var 6) 1) (.cons (.get (.lvar 5) (.var 6) 2) (.consb (.getb (.lvar 5) (.var 6) 3) .nil))))) (.cons (.get (.lvar 7) (.mix (.lvar 7) (.cons (.lit 1) (.cons (.lit 3) .nil))) 2) (.cons (.get (.lvar 7) (.mix (.lvar 7) (.cons (.lit 1) (.cons (.lit 3) .nil))) 3) (.cons (.get (.lvar 7) (.mix (.lvar 7) (.cons (.lit 1) (.cons (.lit 3) .nil))) 4) (.consb (.getb (.lvar 7) (.mix (.lvar 7) (.cons (.lit 1) (.cons (.lit 3) .nil))) 5) .nil))))) (.cons (.get (.lvar 7) (.mix (.lvar 7) (.cons (.lit 1) (.cons (.lit 9) .nil))) 2) (.cons (.get (.lvar 7) (.mix (.lvar 7) (.cons (.lit 1) (.cons (.lit 9) .nil))) 3) (.cons (.get (.lvar 7) (.mix (.lvar 7) (.cons (.lit 1) (.cons (.lit 9) .nil))) 4) (.consb (.getb (.lvar 7) (.mix (.lvar 7) (.cons (.lit 1) (.cons (.lit 9) .nil))) 5) .nil))))) (.cons (.get (.lvar 7) (.mix (.lvar 7) (.cons (.lit 1) (.cons (.lit 6) .nil))) 2) (.cons (.get (.lvar 7) (.mix (.lvar 7) (.cons (.lit 1) (.cons (.lit 6) .nil))) 3) (.cons (.get (.lvar 7) (.mix (.lvar 7) (.cons (.lit 1) (.cons (.lit 6) .nil))) 4) (.consb (.getb (.lvar 7) (.mix (.lvar 7) (.cons (.lit 1) (.cons (.lit 6) .nil))) 5) .nil))))) (.cons (.get (.lvar 7) (.mix (.lvar 7) (.cons (.lit 1) (.cons (.lit 7) .nil))) 2) (.cons (.get (.lvar 7) (.mix (.lvar 7) (.cons (.lit 1) (.cons (.lit 7) .nil))) 3) (.cons (.get (.lvar 7) (.mix (.lvar 7) (.cons (.lit 1) (.cons (.lit 7) .nil))) 4) (.consb (.getb (.lvar 7) (.mix (.lvar 7) (.cons (.lit 1) (.cons (.lit 7) .nil))) 5) .nil))))) (.consl (.lapp (.lvar 7) (.cons (.lit 1) (.cons (.lit 8) (.cons (.get (.lvar 5) (.var 6) 0) (.cons (.get (.lvar 5) (.var 6) 1) (.cons (.get (.lvar 5) (.var 6) 2) (.consb (.getb (.lvar 5) (.var 6) 3) .nil))))))) (.cons (.ite (.eq (.get (.lvar 5) (.var 6) 0) (.lit 0)) (.lit 1) (.var 8)) (.cons (.ite (.eq (.get (.lvar 5) (.var 6) 0) (.lit 0)) (.lit 8) (.var 9)) (.cons (.ite (.eq (.get (.lvar 5) (.var 6) 0) (.lit 1)) (.lit 1) (.var 10)) (.cons (.ite (.eq (.get (.lvar 5) (.var 6) 0) (.lit 1)) (.lit 8) (.var 11)) (.cons (.ite (.eq (.get (.lvar 5) (.var 6) 0) (.lit 2)) (.lit 1) (.var 12)) (.cons (.ite (.eq (.get (.lvar 5) (.var 6) 0) (.lit 2)) (.lit 8) (.var 13)) (.cons (.ite (.eq (.get (.lvar 5) (.var 6) 0) (.lit 3)) (.lit 1) (.var 14)) (.cons (.ite (.eq (.get (.lvar 5) (.var 6) 0) (.lit 3)) (.lit 8) (.var 15)) (.cons (.ite (.eq (.get (.lvar 5) (.var 6) 0) (.lit 4)) (.lit 1) (.var 16)) (.cons (.ite (.eq (.get (.lvar 5) (.var 6) 0) (.lit 4)) (.lit 8) (.var 17)) (.cons (.ite (.eq (.get (.lvar 5) (.var 6) 0) (.lit 5)) (.lit 1) (.var 18)) (.cons (.ite (.eq (.get (.lvar 5) (.var 6) 0) (.lit 5)) (.lit 8) (.var 19)) (.cons (.ite (.eq (.get (.lvar 5) (.var 6) 0) (.lit 6)) (.lit 1) (.var 20)) (.cons (.ite (.eq (.get (.lvar 5) (.var 6) 0) (.lit 6)) (.lit 8) (.var 21)) (.cons (.ite (.eq (.get (.lvar 5) (.var 6) 0) (.lit 7)) (.lit 1) (.var 22)) (.cons (.ite (.eq (.get (.lvar 5) (.var 6) 0) (.lit 7)) (.lit 8) (.var 23)) (.cons (.ite (.eq (.get (.lvar 5) (.var 6) 0) (.lit 8)) (.lit 1) (.var 24)) (.cons (.ite (.eq (.get (.lvar 5) (.var 6) 0) (.lit 8)) (.lit 8) (.var 25)) (.cons (.ite (.eq (.get (.lvar 5) (.var 6) 0) (.lit 9)) (.lit 1) (.var 26)) (.cons (.ite (.eq (.get (.lvar 5) (.var 6) 0) (.lit 9)) (.lit 8) (.var 27)) (.cons (.ite (.eq (.get (.lvar 5) (.var 6) 0) (.lit 10)) (.lit 1) (.var 28)) (.cons (.ite (.eq (.get (.lvar 5) (.var 6) 0) (.lit 10)) (.lit 8) (.var 29)) .nil))))))))))))))))))))))))))
.panic))
(.stuck 130))))
(.br (.lt (.len (.lvar 7)) (.lit 1073741824))
(.br (.lt (.get (.lvar 5) (.var 6) 0) (.lit 0))
.panic
(.br (.lt (.get (.lvar 5) (.var 6) 0) (.lit 11))
(.next 3 (.consb (.tt true) (.consl (.lapp (.lapp (.lapp (.lapp .lnil (.cons (.get (.lvar 5) (.var 6) 0) (.cons (.get (.lvar 5) (.var 6) 1) (.cons (.get (.lvar 5) (.var 6) 2) (.consb (.getb (.lvar 5) (.var 6) 3) .nil))))) (.cons (.get (.lvar 7) (.mix (.lvar 7) (.cons (.lit 1) (.cons (.lit 3) .nil))) 2) (.cons (.get (.lvar 7) (.mix (.lvar 7) (.cons (.lit 1) (.cons (.lit 3) .nil))) 3) (.cons (.get (.lvar 7) (.mix (.lvar 7) (.cons (.lit 1) (.cons (.lit 3) .nil))) 4) (.consb (.getb (.lvar 7) (.mix (.lvar 7) (.cons (.lit 1) (.cons (.lit 3) .nil))) 5) .nil))))) (.cons (.get (.lvar 7) (.mix (.lvar 7) (.cons (.lit 1) (.cons (.lit 9) .nil))) 2) (.cons (.get (.lvar 7) (.mix (.lvar 7) (.cons (.lit 1) (.cons (.lit 9) .nil))) 3) (.cons (.get (.lvar 7) (.mix (.lvar 7) (.cons (.lit 1) (.cons (.lit 9) .nil))) 4) (.consb (.getb (.lvar 7) (.mix (.lvar 7) (.cons (.lit 1) (.cons (.lit 9) .nil))) 5) .nil))))) (.cons (.get (.lvar 7) (.mix (.lvar 7) (.cons (.lit 1) (.cons (.lit 6) .nil))) 2) (.cons (.get (.lvar 7) (.mix (.lvar 7) (.cons (.lit 1) (.cons (.lit 6) .nil))) 3) (.cons (.get (.lvar 7) (.mix (.lvar 7) (.cons (.lit 1) (.cons (.lit 6) .nil))) 4) (.consb (.getb (.lvar 7) (.mix (.lvar 7) (.cons (.lit 1) (.cons (.lit 6) .nil))) 5) .nil))))) (.consl (.lapp (.lvar 7) (.cons (.lit 1) (.cons (.lit 7) (.cons (.get (.lvar 5) (.var 6) 0) (.cons (.get (.lvar 5) (.var 6) 1) (.cons (.get (.lvar 5) (.var 6) 2) (.consb (.getb (.lvar 5) (.var 6) 3) .nil))))))) (.cons (.ite (.eq (.get (.lvar 5) (.var 6) 0) (.lit 0)) (.lit 1) (.var 8)) (.cons (.ite (.eq (.get (.lvar 5) (.var 6) 0) (.lit 0)) (.lit 7) (.var 9)) (.cons (.ite (.eq (.get (.lvar 5) (.var 6) 0) (.lit 1)) (.lit 1) (.var 10)) (.cons (.ite (.eq (.get (.lvar 5) (.var 6) 0) (.lit 1)) (.lit 7) (.var 11)) (.cons (.ite (.eq (.get (.lvar 5) (.var 6) 0) (.lit 2)) (.lit 1) (.var 12)) (.cons (.ite (.eq (.get (.lvar 5) (.var 6) 0) (.lit 2)) (.lit 7) (.var 13)) (.cons (.ite (.eq (.get (.lvar 5) (.var 6) 0) (.lit 3)) (.lit 1) (.var 14)) (.cons (.ite (.eq (.get (.lvar 5) (.var 6) 0) (.lit 3)) (.lit 7) (.var 15)) (.cons (.ite (.eq (.get (.lvar 5) (.var 6) 0) (.lit 4)) (.lit 1) (.var 16)) (.cons (.ite (.eq (.get (.lvar 5) (.var 6) 0) (.lit 4)) (.lit 7) (.var 17)) (.cons (.ite (.eq (.get (.lvar 5) (.var 6) 0) (.lit 5)) (.lit 1) (.var 18)) (.cons (.ite (.eq (.get (.lvar 5) (.var 6) 0) (.lit 5)) (.lit 7) (.var 19)) (.cons (.ite (.eq (.get (.lvar 5) (.var 6) 0) (.lit 6)) (.lit 1) (.var 20)) (.cons (.ite (.eq (.get (.lvar 5) (.var 6) 0) (.lit 6)) (.lit 7) (.var 21)) (.cons (.ite (.eq (.get (.lvar 5) (.var 6) 0) (.lit 7)) (.lit 1) (.var 22)) (.cons (.ite (.eq (.get (.lvar 5) (.var 6) 0) (.lit 7)) (.lit 7) (.var 23)) (.cons (.ite (.eq (.get (.lvar 5) (.var 6) 0) (.lit 8)) (.lit 1) (.var 24)) (.cons (.ite (.eq (.get (.lvar 5) (.var 6) 0) (.lit 8)) (.lit 7) (.var 25)) (.cons (.ite (.eq (.get (.lvar 5) (.var 6) 0) (.lit 9)) (.lit 1) (.var 26)) (.cons (.ite (.eq (.get (.lvar 5) (.var 6) 0) (.lit 9)) (.lit 7) (.var 27)) (.cons (.ite (.eq (.get (.lvar 5) (.var 6) 0) (.lit 10)) (.lit 1) (.var 28)) (.cons (.ite (.eq (.get (.lvar 5) (.var 6) 0) (.lit 10)) (.lit 7) (.var 29)) .nil))))))))))))))))))))))))))
.panic))
(.stuck 130))))
(.br (.lt (.len (.lvar 7)) (.lit 1073741824))
(.br (.lt (.get (.lvar 5) (.var 6) 0) (.lit 0))
.panic
(.br (.lt (.get (.lvar 5) (.var 6) 0) (.lit 11))
(.next 3 (.consb (.tt true) (.consl (.lapp (.lapp (.lapp .lnil (.cons (.get (.lvar 5) (.var 6) 0) (.cons (.get (.lvar 5) (.var 6) 1) (.cons (.get (.lvar 5) (.var 6) 2) (.consb (.getb (.lvar 5) (.var 6) 3) .nil))))) (.cons (.get (.lvar 7) (.mix (.lvar 7) (.cons (.lit 1) (.cons (.lit 3) .nil))) 2) (.cons (.get (.lvar 7) (.mix (.lvar 7) (.cons (.lit 1) (.cons (.lit 3) .nil))) 3) (.cons (.get (.lvar 7) (.mix (.lvar 7) (.cons (.lit 1) (.cons (.lit 3) .nil))) 4) (.consb (.getb (.lvar 7) (.mix (.lvar 7) (.cons (.lit 1) (.cons (.lit 3) .nil))) 5) .nil))))) (.cons (.get (.lvar 7) (.mix (.lvar 7) (.cons (.lit 1) (.cons (.lit 9) .nil))) 2) (.cons (.get (.lvar 7) (.mix (.lvar 7) (.cons (.lit 1) (.cons (.lit 9) .nil))) 3) (.cons (.get (.lvar 7) (.mix (.lvar 7) (.cons (.lit 1) (.cons (.lit 9) .nil))) 4) (.consb (.getb (.lvar 7) (.mix (.lvar 7) (.cons (.lit 1) (.cons (.lit 9) .nil))) 5) .nil))))) (.consl (.lapp (.lvar 7) (.cons (.lit 1) (.cons (.lit 6) (.cons (.get (.lvar 5) (.var 6) 0) (.cons (.get (.lvar 5) (.var 6) 1) (.cons (.get (.lvar 5) (.var 6) 2) (.consb (.getb (.lvar 5) (.var 6) 3) .nil))))))) (.cons (.ite (.eq (.get (.lvar 5) (.var 6) 0) (.lit 0)) (.lit 1) (.var 8)) (.cons (.ite (.eq (.get (.lvar 5) (.var 6) 0) (.lit 0)) (.lit 6) (.var 9)) (.cons (.ite (.eq (.get (.lvar 5) (.var 6) 0) (.lit 1)) (.lit 1) (.var 10)) (.cons (.ite (.eq (.get (.lvar 5) (.var 6) 0) (.lit 1)) (.lit 6) (.var 11)) (.cons (.ite (.eq (.get (.lvar 5) (.var 6) 0) (.lit 2)) (.lit 1) (.var 12)) (.cons (.ite (.eq (.get (.lvar 5) (.var 6) 0) (.lit 2)) (.lit 6) (.var 13)) (.cons (.ite (.eq (.get (.lvar 5) (.var 6) 0) (.lit 3)) (.lit 1) (.var 14)) (.cons (.ite (.eq (.get (.lvar 5) (.var 6) 0) (.lit 3)) (.lit 6) (.var 15)) (.cons (.ite (.eq (.get (.lvar 5) (.var 6) 0) (.lit 4)) (.lit 1) (.var 16)) (.cons (.ite (.eq (.get (.lvar 5) (.var 6) 0) (.lit 4)) (.lit 6) (.var 17)) (.cons (.ite (.eq (.get (.lvar 5) (.var 6) 0) (.lit 5)) (.lit 1) (.var 18)) (.cons (.ite (.eq (.get (.lvar 5) (.var 6) 0) (.lit 5)) (.lit 6) (.var 19)) (.cons (.ite (.eq (.get (.lvar 5) (.var 6) 0) (.lit 6)) (.lit 1) (.var 20)) (.cons (.ite (.eq (.get (.lvar 5) (.var 6) 0) (.lit 6)) (.lit 6) (.var 21)) (.cons (.ite (.eq (.get (.lvar 5) (.var 6) 0) (.lit 7)) (.lit 1) (.var 22)) (.cons (.ite (.eq (.get (.lvar 5) (.var 6) 0) (.lit 7)) (.lit 6) (.var 23)) (.cons (.ite (.eq (.get (.lvar 5) (.var 6) 0) (.lit 8)) (.lit 1) (.var 24)) (.cons (.ite (.eq (.get (.lvar 5) (.var 6) 0) (.lit 8)) (.lit 6) (.var 25)) (.cons (.ite (.eq (.get (.lvar 5) (.var 6) 0) (.lit 9)) (.lit 1) (.var 26)) (.cons (.ite (.eq (.get (.lvar 5) (.var 6) 0) (.lit 9)) (.lit 6) (.var 27)) (.cons (.ite (.eq (.get (.lvar 5) (.var 6) 0) (.lit 10)) (.lit 1) (.var 28)) (.cons (.ite (.eq (.get (.lvar 5) (.var 6) 0) (.lit 10)) (.lit 6) (.var 29)) .nil))))))))))))))))))))))))))
.panic))
(.stuck 130))))
(.br (.lt (.len (.lvar 7)) (.lit 1073741824))
(.br (.lt (.get (.lvar 5) (.var 6) 0) (.lit 0))
.panic
(.br (.lt (.get (.lvar 5) (.var 6) 0) (.lit 11))
(.next 3 (.consb (.tt true) (.consl (.lapp (.lapp .lnil (.cons (.get (.lvar 5) (.var 6) 0) (.cons (.get (.lvar 5) (.var 6) 1) (.cons (.get (.lvar 5) (.var 6) 2) (.consb (.getb (.lvar 5) (.var 6) 3) .nil))))) (.cons (.get (.lvar 7) (.mix (.lvar 7) (.cons (.lit 1) (.cons (.lit 3) .nil))) 2) (.cons (.get (.lvar 7) (.mix (.lvar 7) (.cons (.lit 1) (.cons (.lit 3) .nil))) 3) (.cons (.get (.lvar 7) (.mix (.lvar 7) (.cons (.lit 1) (.cons (.lit 3) .nil))) 4) (.consb (.getb (.lvar 7) (.mix (.lvar 7) (.cons (.lit 1) (.cons (.lit 3) .nil))) 5) .nil))))) (.consl (.lapp (.lvar 7) (.cons (.lit 1) (.cons (.lit 9) (.cons (.get (.lvar 5) (.var 6) 0) (.cons (.get (.lvar 5) (.var 6) 1) (.cons (.get (.lvar 5) (.var 6) 2) (.consb (.getb (.lvar 5) (.var 6) 3) .nil))))))) (.cons (.ite (.eq (.get (.lvar 5) (.var 6) 0) (.lit 0)) (.lit 1) (.var 8)) (.cons (.ite (.eq (.get (.lvar 5) (.var 6) 0) (.lit 0)) (.lit 9) (.var 9)) (.cons (.ite (.eq (.get (.lvar 5) (.var 6) 0) (.lit 1)) (.lit 1) (.var 10)) (.cons (.ite (.eq (.get (.lvar 5) (.var 6) 0) (.lit 1)) (.lit 9) (.var 11)) (.cons (.ite (.eq (.get (.lvar 5) (.var 6) 0) (.lit 2)) (.lit 1) (.var 12)) (.cons (.ite (.eq (.get (.lvar 5) (.var 6) 0) (.lit 2)) (.lit 9) (.var 13)) (.cons (.ite (.eq (.get (.lvar 5) (.var 6) 0) (.lit 3)) (.lit 1) (.var 14)) (.cons (.ite (.eq (.get (.lvar 5) (.var 6) 0) (.lit 3)) (.lit 9) (.var 15)) (.cons (.ite (.eq (.get (.lvar 5) (.var 6) 0) (.lit 4)) (.lit 1) (.var 16)) (.cons (.ite (.eq (.get (.lvar 5) (.var 6) 0) (.lit 4)) (.lit 9) (.var 17)) (.cons (.ite (.eq (.get (.lvar 5) (.var 6) 0) (.lit 5)) (.lit 1) (.var 18)) (.cons (.ite (.eq (.get (.lvar 5) (.var 6) 0) (.lit 5)) (.lit 9) (.var 19)) (.cons (.ite (.eq (.get (.lvar 5) (.var 6) 0) (.lit 6)) (.lit 1) (.var 20)) (.cons (.ite (.eq (.get (.lvar 5) (.var 6) 0) (.lit 6)) (.lit 9) (.var 21)) (.cons (.ite (.eq (.get (.lvar 5) (.var 6) 0) (.lit 7)) (.lit 1) (.var 22)) (.cons (.ite (.eq (.get (.lvar 5) (.var 6) 0) (.lit 7)) (.lit 9) (.var 23)) (.cons (.ite (.eq (.get (.lvar 5) (.var 6) 0) (.lit 8)) (.lit 1) (.var 24)) (.cons (.ite (.eq (.get (.lvar 5) (.var 6) 0) (.lit 8)) (.lit 9) (.var 25)) (.cons (.ite (.eq (.get (.lvar 5) (.var 6) 0) (.lit 9)) (.lit 1) (.var 26)) (.cons (.ite (.eq (.get (.lvar 5) (.var 6) 0) (.lit 9)) (.lit 9) (.var 27)) (.cons (.ite (.eq (.get (.lvar 5) (.var 6) 0) (.lit 10)) (.lit 1) (.var 28)) (.cons (.ite (.eq (.get (.lvar 5) (.var 6) 0) (.lit 10)) (.lit 9) (.var 29)) .nil))))))))))))))))))))))))))
.panic))
(.stuck 130))))
(.br (.lt (.len (.lvar 7)) (.lit 1073741824))
(.br (.lt (.get (.lvar 5) (.var 6) 0) (.lit 0))
.panic
(.br (.lt (.get (.lvar 5) (.var 6) 0) (.lit 11))
(.next 3 (.consb (.tt true) (.consl (.lapp .lnil (.cons (.get (.lvar 5) (.var 6) 0) (.cons (.get (.lvar 5) (.var 6) 1) (.cons (.get (.lvar 5) (.var 6) 2) (.consb (.getb (.lvar 5) (.var 6) 3) .nil))))) (.consl (.lapp (.lvar 7) (.cons (.lit 1) (.cons (.lit 3) (.cons (.get (.lvar 5) (.var 6) 0) (.cons (.get (.lvar 5) (.var 6) 1) (.cons (.get (.lvar 5) (.var 6) 2) (.consb (.getb (.lvar 5) (.var 6) 3) .nil))))))) (.cons (.ite (.eq (.get (.lvar 5) (.var 6) 0) (.lit 0)) (.lit 1) (.var 8)) (.cons (.ite (.eq (.get (.lvar 5) (.var 6) 0) (.lit 0)) (.lit 3) (.var 9)) (.cons (.ite (.eq (.get (.lvar 5) (.var 6) 0) (.lit 1)) (.lit 1) (.var 10)) (.cons (.ite (.eq (.get (.lvar 5) (.var 6) 0) (.lit 1)) (.lit 3) (.var 11)) (.cons (.ite (.eq (.get (.lvar 5) (.var 6) 0) (.lit 2)) (.lit 1) (.var 12)) (.cons (.ite (.eq (.get (.lvar 5) (.var 6) 0) (.lit 2)) (.lit 3) (.var 13)) (.cons (.ite (.eq (.get (.lvar 5) (.var 6) 0) (.lit 3)) (.lit 1) (.var 14)) (.cons (.ite (.eq (.get (.lvar 5) (.var 6) 0) (.lit 3)) (.lit 3) (.var 15)) (.cons (.ite (.eq (.get (.lvar 5) (.var 6) 0) (.lit 4)) (.lit 1) (.var 16)) (.cons (.ite (.eq (.get (.lvar 5) (.var 6) 0) (.lit 4)) (.lit 3) (.var 17)) (.cons (.ite (.eq (.get (.lvar 5) (.var 6) 0) (.lit 5)) (.lit 1) (.var 18)) (.cons (.ite (.eq (.get (.lvar 5) (.var 6) 0) (.lit 5)) (.lit 3) (.var 19)) (.cons (.ite (.eq (.get (.lvar 5) (.var 6) 0) (.lit 6)) (.lit 1) (.var 20)) (.cons (.ite (.eq (.get (.lvar 5) (.var 6) 0) (.lit 6)) (.lit 3) (.var 21)) (.cons (.ite (.eq (.get (.lvar 5) (.var 6) 0) (.lit 7)) (.lit 1) (.var 22)) (.cons (.ite (.eq (.get (.lvar 5) (.var 6) 0) (.lit 7)) (.lit 3) (.var 23)) (.cons (.ite (.eq (.get (.lvar 5) (.var 6) 0) (.lit 8)) (.lit 1) (.var 24)) (.cons (.ite (.eq (.get (.lvar 5) (.var 6) 0) (.lit 8)) (.lit 3) (.var 25)) (.cons (.ite (.eq (.get (.lvar 5) (.var 6) 0) (.lit 9)) (.lit 1) (.var 26)) (.cons (.ite (.eq (.get (.lvar 5) (.var 6) 0) (.lit 9)) (.lit 3) (.var 27)) (.cons (.ite (.eq (.get (.lvar 5) (.var 6) 0) (.lit 10)) (.lit 1) (.var 28)) (.cons (.ite (.eq (.get (.lvar 5) (.var 6) 0) (.lit 10)) (.lit 3) (.var 29)) .nil))))))))))))))))))))))))))
.panic))
(.stuck 130))))
(.br (.bvar 30)
(.next 2 (.cons (.bin .add .i64 (.var 6) (.lit 1)) (.consl (.lvar 32) (.vs 33 22 .nil))))
(.br (.lt (.len (.lvar 31)) (.lit 1))
(.stuck 50)
(.br (.lt (.lit 0) (.len (.lvar 31)))
(.loop 4 55 [.int .i64, .int .i64, .int .i64, .int .i64, .bool] (.cons (.lit 1) (.cons (.get (.lvar 31) (.lit 0) 0) (.cons (.get (.lvar 31) (.lit 0) 1) (.cons (.get (.lvar 31) (.lit 0) 2) (.consb (.getb (.lvar 31) (.lit 0) 3) .nil)))))
(.br (.lt (.var 55) (.len (.lvar 31)))
(.br (.lt (.var 55) (.lit 0))
.panic
(.call 2 [.int .i64] (.cons (.get (.lvar 31) (.var 55) 0) (.cons (.get (.lvar 31) (.var 55) 1) (.cons (.get (.lvar 31) (.var 55) 2) (.consb (.getb (.lvar 31) (.var 55) 3) (.vs 56 3 (.consb (.bvar 59) .nil)))))) 60
(.br (.lt (.lit 0) (.var 60))
(.next 4 (.cons (.bin .add .i64 (.var 55) (.lit 1)) (.cons (.get (.lvar 31) (.var 55) 0) (.cons (.get (.lvar 31) (.var 55) 1) (.cons (.get (.lvar 31) (.var 55) 2) (.consb (.getb (.lvar 31) (.var 55) 3) .nil))))))
(.next 4 (.cons (.bin .add .i64 (.var 55) (.lit 1)) (.vs 56 3 (.consb (.bvar 59) .nil)))))))
(.br (.beq (.and (.eq (.var 56) (.get (.lvar 5) (.var 6) 0)) (.and (.eq (.var 57) (.get (.lvar 5) (.var 6) 1)) (.and (.eq (.var 58) (.get (.lvar 5) (.var 6) 2)) (.and (.beq (.bvar 59) (.getb (.lvar 5) (.var 6) 3)) (.tt true))))) (.tt true))
(.br (.lt (.var 56) (.lit 0))
.panic
(.br (.lt (.var 56) (.lit 11))
(.next 2 (.cons (.bin .add .i64 (.var 6) (.lit 1)) (.consl (.lvar 32) (.cons (.ite (.eq (.var 56) (.lit 0)) (.lit 2) (.var 33)) (.cons (.ite (.eq (.var 56) (.lit 0)) (.lit 0) (.var 34)) (.cons (.ite (.eq (.var 56) (.lit 1)) (.lit 2) (.var 35)) (.cons (.ite (.eq (.var 56) (.lit 1)) (.lit 0) (.var 36)) (.cons (.ite (.eq (.var 56) (.lit 2)) (.lit 2) (.var 37)) (.cons (.ite (.eq (.var 56) (.lit 2)) (.lit 0) (.var 38)) (.cons (.ite (.eq (.var 56) (.lit 3)) (.lit 2) (.var 39)) (.cons (.ite (.eq (.var 56) (.lit 3)) (.lit 0) (.var 40)) (.cons (.ite (.eq (.var 56) (.lit 4)) (.lit 2) (.var 41)) (.cons (.ite (.eq (.var 56) (.lit 4)) (.lit 0) (.var 42)) (.cons (.ite (.eq (.var 56) (.lit 5)) (.lit 2) (.var 43)) (.cons (.ite (.eq (.var 56) (.lit 5)) (.lit 0) (.var 44)) (.cons (.ite (.eq (.var 56) (.lit 6)) (.lit 2) (.var 45)) (.cons (.ite (.eq (.var 56) (.lit 6)) (.lit 0) (.var 46)) (.cons (.ite (.eq (.var 56) (.lit 7)) (.lit 2) (.var 47)) (.cons (.ite (.eq (.var 56) (.lit 7)) (.lit 0) (.var 48)) (.cons (.ite (.eq (.var 56) (.lit 8)) (.lit 2) (.var 49)) (.cons (.ite (.eq (.var 56) (.lit 8)) (.lit 0) (.var 50)) (.cons (.ite (.eq (.var 56) (.lit 9)) (.lit 2) (.var 51)) (.cons (.ite (.eq (.var 56) (.lit 9)) (.lit 0) (.var 52)) (.cons (.ite (.eq (.var 56) (.lit 10)) (.lit 2) (.var 53)) (.cons (.ite (.eq (.var 56) (.lit 10)) (.lit 0) (.var 54)) .nil)))))))))))))))))))))))))
.panic))
(.cut 5 60 [.int .i8, .int .i8, .int .i8, .int .i8, .int .i8, .int .i8, .int .i8, .int .i8, .int .i8, .int .i8, .int .i8, .int .i8, .int .i8, .int .i8, .int .i8, .int .i8, .int .i8, .int .i8, .int .i8, .int .i8, .int .i8, .int .i8]
(.br (.lt (.var 56) (.lit 0))
.panic
(.br (.lt (.var 56) (.lit 11))
(.br (.lt (.get (.lvar 5) (.var 6) 0) (.lit 0))
.panic
(.br (.lt (.get (.lvar 5) (.var 6) 0) (.lit 11))
(.next 5 (.cons (.ite (.eq (.get (.lvar 5) (.var 6) 0) (.lit 0)) (.nth (.var 56) (.cons (.var 33) (.cons (.var 35) (.cons (.var 37) (.cons (.var 39) (.cons (.var 41) (.cons (.var 43) (.cons (.var 45) (.cons (.var 47) (.cons (.var 49) (.cons (.var 51) (.cons (.var 53) .nil)))))))))))) (.var 33)) (.cons (.ite (.eq (.get (.lvar 5) (.var 6) 0) (.lit 0)) (.nth (.var 56) (.cons (.var 34) (.cons (.var 36) (.cons (.var 38) (.cons (.var 40) (.cons (.var 42) (.cons (.var 44) (.cons (.var 46) (.cons (.var 48) (.cons (.var 50) (.cons (.var 52) (.cons (.var 54) .nil)))))))))))) (.var 34)) (.cons (.ite (.eq (.get (.lvar 5) (.var 6) 0) (.lit 1)) (.nth (.var 56) (.cons (.var 33) (.cons (.var 35) (.cons (.var 37) (.cons (.var 39) (.cons (.var 41) (.cons (.var 43) (.cons (.var 45) (.cons (.var 47) (.cons (.var 49) (.cons (.var 51) (.cons (.var 53) .nil)))))))))))) (.var 35)) (.cons (.ite (.eq (.get (.lvar 5) (.var 6) 0) (.lit 1)) (.nth (.var 56) (.cons (.var 34) (.cons (.var 36) (.cons (.var 38) (.cons (.var 40) (.cons (.var 42) (.cons (.var 44) (.cons (.var 46) (.cons (.var 48) (.cons (.var 50) (.cons (.var 52) (.cons (.var 54) .nil)))))))))))) (.var 36)) (.cons (.ite (.eq (.get (.lvar 5) (.var 6) 0) (.lit 2)) (.nth (.var 56) (.cons (.var 33) (.cons (.var 35) (.cons (.var 37) (.cons (.var 39) (.cons (.var 41) (.cons (.var 43) (.cons (.var 45) (.cons (.var 47) (.cons (.var 49) (.cons (.var 51) (.cons (.var 53) .nil)))))))))))) (.var 37)) (.cons (.ite (.eq (.get (.lvar 5) (.var 6) 0) (.lit 2)) (.nth (.var 56) (.cons (.var 34) (.cons (.var 36) (.cons (.var 38) (.cons (.var 40) (.cons (.var 42) (.cons (.var 44) (.cons (.var 46) (.cons (.var 48) (.cons (.var 50) (.cons (.var 52) (.cons (.var 54) .nil)))))))))))) (.var 38)) (.cons (.ite (.eq (.get (.lvar 5) (.var 6) 0) (.lit 3)) (.nth (.var 56) (.cons (.var 33) (.cons (.var 35) (.cons (.var 37) (.cons (.var 39) (.cons (.var 41) (.cons (.var 43) (.cons (.var 45) (.cons (.var 47) (.cons (.var 49) (.cons (.var 51) (.cons (.var 53) .nil)))))))))))) (.var 39)) (.cons (.ite (.eq (.get (.lvar 5) (.var 6) 0) (.lit 3)) (.nth (.var 56) (.cons (.var 34) (.cons (.var 36) (.cons (.var 38) (.cons (.var 40) (.cons (.var 42) (.cons (.var 44) (.cons (.var 46) (.cons (.var 48) (.cons (.var 50) (.cons (.var 52) (.cons (.var 54) .nil)))))))))))) (.var 40)) (.cons (.ite (.eq (.get (.lvar 5) (.var 6) 0) (.lit 4)) (.nth (.var 56) (.cons (.var 33) (.cons (.var 35) (.cons (.var 37) (.cons (.var 39) (.cons (.var 41) (.cons (.var 43) (.cons (.var 45) (.cons (.var 47) (.cons (.var 49) (.cons (.var 51) (.cons (.var 53) .nil)))))))))))) (.var 41)) (.cons (.ite (.eq (.get (.lvar 5) (.var 6) 0) (.lit 4)) (.nth (.var 56) (.cons (.var 34) (.cons (.var 36) (.cons (.var 38) (.cons (.var 40) (.cons (.var 42) (.cons (.var 44) (.cons (.var 46) (.cons (.var 48) (.cons (.var 50) (.cons (.var 52) (.cons (.var 54) .nil)))))))))))) (.var 42)) (.cons (.ite (.eq (.get (.lvar 5) (.var 6) 0) (.lit 5)) (.nth (.var 56) (.cons (.var 33) (.cons (.var 35) (.cons (.var 37) (.cons (.var 39) (.cons (.var 41) (.cons (.var 43) (.cons (.var 45) (.cons (.var 47) (.cons (.var 49) (.cons (.var 51) (.cons (.var 53) .nil)))))))))))) (.var 43)) (.cons (.ite (.eq (.get (.lvar 5) (.var 6) 0) (.lit 5)) (.nth (.var 56) (.cons (.var 34) (.cons (.var 36) (.cons (.var 38) (.cons (.var 40) (.cons (.var 42) (.cons (.var 44) (.cons (.var 46) (.cons (.var 48) (.cons (.var 50) (.cons (.var 52) (.cons (.var 54) .nil)))))))))))) (.var 44)) (.cons (.ite (.eq (.get (.lvar 5) (.var 6) 0) (.lit 6)) (.nth (.var 56) (.cons (.var 33) (.cons (.var 35) (.cons (.var 37) (.cons (.var 39) (.cons (.var 41) (.cons (.var 43) (.cons (.var 45) (.cons (.var 47) (.cons (.var 49) (.cons (.var 51) (.cons (.var 53) .nil)))))))))))) (.var 45)) (.cons (.ite (.eq (.get (.lvar 5) (.var 6) 0) (.lit 6)) (.nth (.var 56) (.cons (.var 34) (.cons (.var 36) (.cons (.var 38) (.cons (.var 40) (.cons (.var 42) (.cons (.var 44) (.cons (.var 46) (.cons (.var 48) (.cons (.var 50) (.cons (.var 52) (.cons (.var 54) .nil)))))))))))) (.var 46)) (.cons (.ite (.eq (.get (.lvar 5) (.var 6) 0) (.lit 7)) (.nth (.var 56) (.cons (.var 33) (.cons (.var 35) (.cons (.var 37) (.cons (.var 39) (.cons (.var 41) (.cons (.var 43) (.cons (.var 45) (.cons (.var 47) (.cons (.var 49) (.cons (.var 51) (.cons (.var 53) .nil)))))))))))) (.var 47)) (.cons (.ite (.eq (.get (.lvar 5) (.var 6) 0) (.lit 7)) (.nth (.var 56) (.cons (.var 34) (.cons (.var 36) (.cons (.var 38) (.cons (.var 40) (.cons (.var 42) (.cons (.var 44) (.cons (.var 46) (.cons (.var 48) (.cons (.var 50) (.cons (.var 52) (.cons (.var 54) .nil)))))))))))) (.var 48)) (.cons (.ite (.eq (.get (.lvar 5) (.var 6) 0) (.lit 8)) (.nth (.var 56) (.cons (.var 33) (.cons (.var 35) (.cons (.var 37) (.cons (.var 39) (.cons (.var 41) (.cons (.var 43) (.cons (.var 45) (.cons (.var 47) (.cons (.var 49) (.cons (.var 51) (.cons (.var 53) .nil)))))))))))) (.var 49)) (.cons (.ite (.eq (.get (.lvar 5) (.var 6) 0) (.lit 8)) (.nth (.var 56) (.cons (.var 34) (.cons (.var 36) (.cons (.var 38) (.cons (.var 40) (.cons (.var 42) (.cons (.var 44) (.cons (.var 46) (.cons (.var 48) (.cons (.var 50) (.cons (.var 52) (.cons (.var 54) .nil)))))))))))) (.var 50)) (.cons (.ite (.eq (.get (.lvar 5) (.var 6) 0) (.lit 9)) (.nth (.var 56) (.cons (.var 33) (.cons (.var 35) (.cons (.var 37) (.cons (.var 39) (.cons (.var 41) (.cons (.var 43) (.cons (.var 45) (.cons (.var 47) (.cons (.var 49) (.cons (.var 51) (.cons (.var 53) .nil)))))))))))) (.var 51)) (.cons (.ite (.eq (.get (.lvar 5) (.var 6) 0) (.lit 9)) (.nth (.var 56) (.cons (.var 34) (.cons (.var 36) (.cons (.var 38) (.cons (.var 40) (.cons (.var 42) (.cons (.var 44) (.cons (.var 46) (.cons (.var 48) (.cons (.var 50) (.cons (.var 52) (.cons (.var 54) .nil)))))))))))) (.var 52)) (.cons (.ite (.eq (.get (.lvar 5) (.var 6) 0) (.lit 10)) (.nth (.var 56) (.cons (.var 33) (.cons (.var 35) (.cons (.var 37) (.cons (.var 39) (.cons (.var 41) (.cons (.var 43) (.cons (.var 45) (.cons (.var 47) (.cons (.var 49) (.cons (.var 51) (.cons (.var 53) .nil)))))))))))) (.var 53)) (.cons (.ite (.eq (.get (.lvar 5) (.var 6) 0) (.lit 10)) (.nth (.var 56) (.cons (.var 34) (.cons (.var 36) (.cons (.var 38) (.cons (.var 40) (.cons (.var 42) (.cons (.var 44) (.cons (.var 46) (.cons (.var 48) (.cons (.var 50) (.cons (.var 52) (.cons (.var 54) .nil)))))))))))) (.var 54)) .nil)))))))))))))))))))))))
.panic))
.panic))
(.br (.lt (.get (.lvar 5) (.var 6) 0) (.lit 0))
.panic
(.br (.lt (.get (.lvar 5) (.var 6) 0) (.lit 11))
(.br (.lt (.mix (.lvar 32) (.cons (.nth (.get (.lvar 5) (.var 6) 0) (.cons (.var 60) (.cons (.var 62) (.cons (.var 64) (.cons (.var 66) (.cons (.var 68) (.cons (.var 70) (.cons (.var 72) (.cons (.var 74) (.cons (.var 76) (.cons (.var 78) (.cons (.var 80) .nil)))))))))))) (.cons (.nth (.get (.lvar 5) (.var 6) 0) (.cons (.var 61) (.cons (.var 63) (.cons (.var 65) (.cons (.var 67) (.cons (.var 69) (.cons (.var 71) (.cons (.var 73) (.cons (.var 75) (.cons (.var 77) (.cons (.var 79) (.cons (.var 81) .nil)))))))))))) .nil))) (.len (.lvar 32)))
(.br (.lt (.var 56) (.lit 0))
.panic
(.br (.lt (.var 56) (.lit 11))
(.next 2 (.cons (.bin .add .i64 (.var 6) (.lit 1)) (.consl (.lput (.lvar 32) (.mix (.lvar 32) (.cons (.nth (.get (.lvar 5) (.var 6) 0) (.cons (.var 60) (.cons (.var 62) (.cons (.var 64) (.cons (.var 66) (.cons (.var 68) (.cons (.var 70) (.cons (.var 72) (.cons (.var 74) (.cons (.var 76) (.cons (.var 78) (.cons (.var 80) .nil)))))))))))) (.cons (.nth (.get (.lvar 5) (.var 6) 0) (.cons (.var 61) (.cons (.var 63) (.cons (.var 65) (.cons (.var 67) (.cons (.var 69) (.cons (.var 71) (.cons (.var 73) (.cons (.var 75) (.cons (.var 77) (.cons (.var 79) (.cons (.var 81) .nil)))))))))))) .nil))) (.cons (.nth (.get (.lvar 5) (.var 6) 0) (.cons (.var 60) (.cons (.var 62) (.cons (.var 64) (.cons (.var 66) (.cons (.var 68) (.cons (.var 70) (.cons (.var 72) (.cons (.var 74) (.cons (.var 76) (.cons (.var 78) (.cons (.var 80) .nil)))))))))))) (.cons (.nth (.get (.lvar 5) (.var 6) 0) (.cons (.var 61) (.cons (.var 63) (.cons (.var 65) (.cons (.var 67) (.cons (.var 69) (.cons (.var 71) (.cons (.var 73) (.cons (.var 75) (.cons (.var 77) (.cons (.var 79) (.cons (.var 81) .nil)))))))))))) (.cons (.get (.lvar 5) (.var 6) 0) (.cons (.get (.lvar 5) (.var 6) 1) (.cons (.get (.lvar 5) (.var 6) 2) (.consb (.getb (.lvar 5) (.var 6) 3) .nil))))))) (.cons (.ite (.eq (.var 56) (.lit 0)) (.lit 2) (.var 60)) (.cons (.ite (.eq (.var 56) (.lit 0)) (.lit 0) (.var 61)) (.cons (.ite (.eq (.var 56) (.lit 1)) (.lit 2) (.var 62)) (.cons (.ite (.eq (.var 56) (.lit 1)) (.lit 0) (.var 63)) (.cons (.ite (.eq (.var 56) (.lit 2)) (.lit 2) (.var 64)) (.cons (.ite (.eq (.var 56) (.lit 2)) (.lit 0) (.var 65)) (.cons (.ite (.eq (.var 56) (.lit 3)) (.lit 2) (.var 66)) (.cons (.ite (.eq (.var 56) (.lit 3)) (.lit 0) (.var 67)) (.cons (.ite (.eq (.var 56) (.lit 4)) (.lit 2) (.var 68)) (.cons (.ite (.eq (.var 56) (.lit 4)) (.lit 0) (.var 69)) (.cons (.ite (.eq (.var 56) (.lit 5)) (.lit 2) (.var 70)) (.cons (.ite (.eq (.var 56) (.lit 5)) (.lit 0) (.var 71)) (.cons (.ite (.eq (.var 56) (.lit 6)) (.lit 2) (.var 72)) (.cons (.ite (.eq (.var 56) (.lit 6)) (.lit 0) (.var 73)) (.cons (.ite (.eq (.var 56) (.lit 7)) (.lit 2) (.var 74)) (.cons (.ite (.eq (.var 56) (.lit 7)) (.lit 0) (.var 75)) (.cons (.ite (.eq (.var 56) (.lit 8)) (.lit 2) (.var 76)) (.cons (.ite (.eq (.var 56) (.lit 8)) (.lit 0) (.var 77)) (.cons (.ite (.eq (.var 56) (.lit 9)) (.lit 2) (.var 78)) (.cons (.ite (.eq (.var 56) (.lit 9)) (.lit 0) (.var 79)) (.cons (.ite (.eq (.var 56) (.lit 10)) (.lit 2) (.var 80)) (.cons (.ite (.eq (.var 56) (.lit 10)) (.lit 0) (.var 81)) .nil)))))))))))))))))))))))))
.panic))
(.br (.lt (.len (.lvar 32)) (.lit 1073741824))
(.br (.lt (.var 56) (.lit 0))
.panic
(.br (.lt (.var 56) (.lit 11))
(.next 2 (.cons (.bin .add .i64 (.var 6) (.lit 1)) (.consl (.lapp (.lvar 32) (.cons (.nth (.get (.lvar 5) (.var 6) 0) (.cons (.var 60) (.cons (.var 62) (.cons (.var 64) (.cons (.var 66) (.cons (.var 68) (.cons (.var 70) (.cons (.var 72) (.cons (.var 74) (.cons (.var 76) (.cons (.var 78) (.cons (.var 80) .nil)))))))))))) (.cons (.nth (.get (.lvar 5) (.var 6) 0) (.cons (.var 61) (.cons (.var 63) (.cons (.var 65) (.cons (.var 67) (.cons (.var 69) (.cons (.var 71) (.cons (.var 73) (.cons (.var 75) (.cons (.var 77) (.cons (.var 79) (.cons (.var 81) .nil)))))))))))) (.cons (.get (.lvar 5) (.var 6) 0) (.cons (.get (.lvar 5) (.var 6) 1) (.cons (.get (.lvar 5) (.var 6) 2) (.consb (.getb (.lvar 5) (.var 6) 3) .nil))))))) (.cons (.ite (.eq (.var 56) (.lit 0)) (.lit 2) (.var 60)) (.cons (.ite (.eq (.var 56) (.lit 0)) (.lit 0) (.var 61)) (.cons (.ite (.eq (.var 56) (.lit 1)) (.lit 2) (.var 62)) (.cons (.ite (.eq (.var 56) (.lit 1)) (.lit 0) (.var 63)) (.cons (.ite (.eq (.var 56) (.lit 2)) (.lit 2) (.var 64)) (.cons (.ite (.eq (.var 56) (.lit 2)) (.lit 0) (.var 65)) (.cons (.ite (.eq (.var 56) (.lit 3)) (.lit 2) (.var 66)) (.cons (.ite (.eq (.var 56) (.lit 3)) (.lit 0) (.var 67)) (.cons (.ite (.eq (.var 56) (.lit 4)) (.lit 2) (.var 68)) (.cons (.ite (.eq (.var 56) (.lit 4)) (.lit 0) (.var 69)) (.cons (.ite (.eq (.var 56) (.lit 5)) (.lit 2) (.var 70)) (.cons (.ite (.eq (.var 56) (.lit 5)) (.lit 0) (.var 71)) (.cons (.ite (.eq (.var 56) (.lit 6)) (.lit 2) (.var 72)) (.cons (.ite (.eq (.var 56) (.lit 6)) (.lit 0) (.var 73)) (.cons (.ite (.eq (.var 56) (.lit 7)) (.lit 2) (.var 74)) (.cons (.ite (.eq (.var 56) (.lit 7)) (.lit 0) (.var 75)) (.cons (.ite (.eq (.var 56) (.lit 8)) (.lit 2) (.var 76)) (.cons (.ite (.eq (.var 56) (.lit 8)) (.lit 0) (.var 77)) (.cons (.ite (.eq (.var 56) (.lit 9)) (.lit 2) (.var 78)) (.cons (.ite (.eq (.var 56) (.lit 9)) (.lit 0) (.var 79)) (.cons (.ite (.eq (.var 56) (.lit 10)) (.lit 2) (.var 80)) (.cons (.ite (.eq (.var 56) (.lit 10)) (.lit 0) (.var 81)) .nil)))))))))))))))))))))))))
.panic))
(.stuck 130)))
.panic))))))
.panic)))))
(.loop 3 30 [.int .i64, .int .i8, .int .i8, .int .i8, .int .i8, .int .i8, .int .i8, .int .i8, .int .i8, .int .i8, .int .i8, .int .i8, .int .i8, .int .i8, .int .i8, .int .i8, .int .i8, .int .i8, .int .i8, .int .i8, .int .i8, .int .i8, .int .i8, .int .i8] (.cons (.lit 0) (.cons (.lit 0) (.vs 8 22 .nil)))
(.br (.lt (.var 30) (.lit 11))
(.br (.lt (.var 30) (.lit 0))
.panic
(.br (.eq (.nth (.var 30) (.cons (.var 32) (.cons (.var 34) (.cons (.var 36) (.cons (.var 38) (.cons (.var 40) (.cons (.var 42) (.cons (.var 44) (.cons (.var 46) (.cons (.var 48) (.cons (.var 50) (.cons (.var 52) .nil)))))))))))) (.lit 2))
(.next 3 (.cons (.bin .add .i64 (.var 30) (.lit 1)) (.cons (.bin .add .i8 (.var 31) (.lit 1)) (.cons (.var 32) (.cons (.ite (.eq (.var 30) (.lit 0)) (.var 31) (.var 33)) (.cons (.var 34) (.cons (.ite (.eq (.var 30) (.lit 1)) (.var 31) (.var 35)) (.cons (.var 36) (.cons (.ite (.eq (.var 30) (.lit 2)) (.var 31) (.var 37)) (.cons (.var 38) (.cons (.ite (.eq (.var 30) (.lit 3)) (.var 31) (.var 39)) (.cons (.var 40) (.cons (.ite (.eq (.var 30) (.lit 4)) (.var 31) (.var 41)) (.cons (.var 42) (.cons (.ite (.eq (.var 30) (.lit 5)) (.var 31) (.var 43)) (.cons (.var 44) (.cons (.ite (.eq (.var 30) (.lit 6)) (.var 31) (.var 45)) (.cons (.var 46) (.cons (.ite (.eq (.var 30) (.lit 7)) (.var 31) (.var 47)) (.cons (.var 48) (.cons (.ite (.eq (.var 30) (.lit 8)) (.var 31) (.var 49)) (.cons (.var 50) (.cons (.ite (.eq (.var 30) (.lit 9)) (.var 31) (.var 51)) (.cons (.var 52) (.cons (.ite (.eq (.var 30) (.lit 10)) (.var 31) (.var 53)) .nil)))))))))))))))))))))))))
(.next 3 (.cons (.bin .add .i64 (.var 30) (.lit 1)) (.vs 31 23 .nil)))))
(.leaf (.vs 32 22 (.cons (.lit 0) .nil))))))))))))
(.leaf (.cons (.lit 0) (.cons (.lit 0) (.cons (.lit 0) (.cons (.lit 0) (.cons (.lit 0) (.cons (.lit 0) (.cons (.lit 0) (.cons (.lit 0) (.cons (.lit 0) (.cons (.lit 0) (.cons (.lit 0) (.cons (.lit 0) (.cons (.lit 0) (.cons (.lit 0) (.cons (.lit 0) (.cons (.lit 0) (.cons (.lit 0) (.cons (.lit 0) (.cons (.lit 0) (.cons (.lit 0) (.cons (.lit 0) (.cons (.lit 0) (.cons (.lit 2) .nil))))))))))))))))))))))))))
def sP_arun : Spec := ⟨fun k => match k with | 0 => sF_aright | 1 => sF_acm1 | 2 => sF_acm2 | 3 => sF_blen | _ => fun _ => [], fun k => match k with | 0 => sQ_aright | _ => fun _ => True⟩
set_option maxRecDepth 100000 in
theorem sR_arun : treeIs tys_AlF [sM_aright 0, sM_acm1 1, sM_acm2 2, sM_blen 3] [(12, Try.f12, [], []), (13, Try.f13, [], []), (22, Try.f22, [], []), (27, Try.f27, [(1, [.tmpI 8 .i64, .row 2, .top 12, .top 13, .top 14, .top 17, .top 9, .top 18, .top 19, .top 20, .top 21, .top 22, .top 23, .top 24, .top 25, .top 26, .top 27, .top 28, .top 29, .top 30, .top 31, .top 32, .top 33, .top 34, .top 37, .top 38, .top 39, .top 40, .top 41, .top 42, .top 43, .top 44, .top 45, .top 46, .top 47, .top 48, .top 49, .top 50, .top 51, .top 52, .top 35, .top 36, .top 15, .top 16]), (4, [.tmpI 9 .i64, .row 2, .top 18, .top 19, .top 20, .top 21, .top 22, .top 23, .top 24, .top 25, .top 26, .top 27, .top 28, .top 29, .top 30, .top 31, .top 32, .top 33, .top 34, .top 37, .top 38, .top 39, .top 40, .top 41, .top 42, .top 43, .top 44, .top 45, .top 46, .top 47, .top 48, .top 49, .top 50, .top 51, .top 52, .top 35, .top 36])], []), (17, Try.f17, [], []), (18, Try.f18, [], []), (19, Try.f19, [], []), (25, Try.f25, [(5, [.tmpI 6 .i64, .cels 9 0 [some .i64, some .i64, some .i64, none], .top 14, .top 15, .top 16, .top 17, .top 20, .top 21, .top 22, .top 23, .top 24, .top 25, .top 26, .top 27, .top 28, .top 29, .top 30, .top 31, .top 18, .top 19])], []), (23, Try.f23, [], [])] [(7, [.tmpI 28 .i64, .row 3, .cels 1 0 [some .i8, some .i8, some .i8, some .i8, some .i8, some .i8, some .i8, some .i8, some .i8, some .i8, some .i8, some .i8, some .i8, some .i8, some .i8, some .i8, some .i8, some .i8, some .i8, some .i8, some .i8, some .i8], .top 29, .top 30, .top 31, .top 6, .top 7, .top 32, .top 33, .top 8, .top 34, .top 35, .top 36, .top 37, .top 38, .top 39, .top 40, .top 41, .top 10, .top 42, .top 43, .top 11, .top 45, .top 46, .top 47, .top 44, .top 48, .top 49, .top 12, .top 13, .top 50, .top 51, .top 52, .top 53, .top 54, .top 55, .top 56, .top 57, .top 58, .top 59, .top 60, .top 61, .top 62, .top 63, .top 64, .top 65, .top 66, .top 67, .top 68, .top 69, .top 70, .top 71, .top 72, .top 14, .top 73, .top 74, .top 75, .top 76, .top 77, .top 78, .top 79, .top 80, .top 81, .top 82, .top 83, .top 84, .top 85, .top 86, .top 87, .top 88, .top 89, .top 90, .top 91, .top 92, .top 93]), (29, [.tmpI 94 .i64, .tmpI 15 .i8, .cels 1 0 [some .i8, some .i8, some .i8, some .i8, some .i8, some .i8, some .i8, some .i8, some .i8, some .i8, some .i8, some .i8, some .i8, some .i8, some .i8, some .i8, some .i8, some .i8, some .i8, some .i8, some .i8, some .i8], .top 95, .top 96, .top 16, .top 97, .top 98, .top 99, .top 100, .top 101, .top 102, .top 103, .top 104, .top 105, .top 106, .top 107, .top 108]), (999999, []), (999998, [])] [(24, [.cels 1 0 [some .i8, some .i8, some .i8, some .i8, some .i8, some .i8, some .i8, some .i8, some .i8, some .i8, some .i8, some .i8, some .i8, some .i8, some .i8, some .i8, some .i8, some .i8, some .i8, some .i8, some .i8, some .i8], .top 76, .top 77, .top 78, .top 79, .top 80, .top 81, .top 82]), (4, [.tmpS 0 [some .i64, some .i64, some .i64, none] 25, .top 21, .top 22]), (20, [.top 33, .tmpB 7, .tmpS 8 [some .i64, some .i64, some .i64, none] 25, .gone 5, .row 3, .cels 1 0 [some .i8, some .i8, some .i8, some .i8, some .i8, some .i8, some .i8, some .i8, some .i8, some .i8, some .i8, some .i8, some .i8, some .i8, some .i8, some .i8, some .i8, some .i8, some .i8, some .i8, some .i8, some .i8], .top 34, .top 35, .top 36, .top 37, .top 38, .top 39, .top 40, .top 41, .top 10, .top 42, .top 43, .top 11, .top 45, .top 46, .top 47, .top 44, .top 48, .top 49, .top 12, .top 13, .top 50, .top 51, .top 52, .top 53, .top 54, .top 55, .top 56, .top 57, .top 58, .top 59, .top 60, .top 61, .top 62, .top 63, .top 64, .top 65, .top 66, .top 67, .top 68, .top 69])] 200 Try.f7 [.one (.sl [some .i64, some .i64, some .i64, none] 25)] [.agg kP11, .one (.int .i64)] true [.list [some .i64, some .i64, some .i64, none]] sT_arun := ⟨by kernel_rfl, by kernel_rfl, by kernel_rfl⟩
def sQ_arun : List Dt → Prop
  | [.l x0] => let f (l : List (List Int)) : Prop := l.length ≤ maxLen; f x0
  | _ => False
set_option maxRecDepth 100000 in
set_option maxHeartbeats 8000000 in
theorem sX_arun (l : List (List Int)) (hl : RowsIn [some .i64, some .i64, some .i64, none] l) (hp : sQ_arun [.l l]) (ρ : Env) (g : varsD ρ 0 [.list [some .i64, some .i64, some .i64, none]] = [.l l]) : sT_arun.asks sP_arun (fun ρ e => e.D ρ = sF_arun [.l l]) ρ fun _ _ => False := by
  simp only [sQ_arun, b2i_one, Span.eta, Place.eta, P11.eta, spanAt_mk, spR_mk] at hp
  have keepg := g
  simp only [varsD, varD, List.cons.injEq, Dt.z.injEq, Dt.l.injEq, b2i_eq_iff, Nat.reduceAdd, and_true] at g
  simp only [sT_arun, sP_arun, sF_aright, sF_acm1, sF_acm2, sF_blen, sV_aright, sV_acm1, sV_acm2, sV_blen, sF_arun, sV_arun, sQ_aright, Tr.asks, upd_same, okDs, okD, eqs, E.I, E.B, E.L, E.R, E.D, E.vs, dI, dB, dL, varD, varsD, List.getElem?_cons_zero, List.getElem?_cons_succ, List.cons_append, List.nil_append, Nat.zero_add, Nat.add_zero, Nat.reduceAdd, and_true, true_and, b2i_one, -eq_self, Span.eta, Place.eta, P11.eta, spanAt_mk, spR_mk, g]
  have k0_l0 := g
  refine ⟨?_, ?_⟩
  · exact hp
  intro e; have k0_b1 := e; (try simp only [e, Span.eta, Place.eta, P11.eta, spanAt_mk, spR_mk, -eq_self]); clear e
  refine ⟨fun c0 => ?_, fun c0 => ?_⟩
  have hR := aR_u c0
  have hL11 := hR.len
  refine ⟨fun ds => ds = [.l l], ?_, ?_⟩
  intro ρ1 ha1 hz1 hc1
  have k1_l0 : ρ1.l 0 = _ := (ha1 0 (by decide)).2.2.symm.trans k0_l0
  have k1_b1 : ρ1.b 1 = _ := (ha1 1 (by decide)).2.1.symm.trans k0_b1
  simp only [k1_l0, -eq_self] at hc1
  simp only [k1_l0, -eq_self]
  refine ⟨fun c1 => ?_, fun c1 => ?_⟩
  · have hz : l.length = 0 := by rw [c1] at hc1; simp at hc1; rw [hc1]; rfl
    rw [List.length_eq_zero_iff.1 hz]
  refine ⟨fun c2 => ?_, fun c2 => ?_⟩
  · rfl
  · exact absurd (of_decide_eq_false c2) (by omega)
  intro ρ1 ha1 _ hi1
  simp only [List.cons.injEq, Dt.z.injEq, Dt.l.injEq, b2i_eq_iff, and_true] at hi1
  have k1_l2 := hi1
  have k1_l0 : ρ1.l 0 = _ := (ha1 0 (by decide)).2.2.symm.trans k0_l0
  have k1_b1 : ρ1.b 1 = _ := (ha1 1 (by decide)).2.1.symm.trans k0_b1
  simp only [k1_l0, k1_b1, k1_l2, spanAt_mk, spR_mk, -eq_self]
  intro e; (try simp only [e, Span.eta, Place.eta, P11.eta, spanAt_mk, spR_mk, -eq_self]); clear e
  refine ⟨fun c3 => ?_, fun c3 => ?_⟩
  refine ⟨fun c4 => ?_, fun c4 => ?_⟩
  · rw [sub0 hp] at c3
    exact absurd (of_decide_eq_true c3) (by omega)
  · rw [sub0 hp] at c3
    exact absurd (of_decide_eq_true c3) (by omega)
  refine ⟨fun ds => ∃ i : Nat, ds = [.z ((i + 1 : Nat) : Int), .l (srtN l i)] ∧ i ≤ l.length - 1 ∧ RowsIn kS (srtN l i), fun ds => l.length - (dI ds 0).toNat, ⟨0, rfl, Nat.zero_le _, hl⟩, ?_⟩
  intro ρ2 ha2 _ hi2
  obtain ⟨i, hds, hi, hiM⟩ := hi2
  simp only [List.cons.injEq, Dt.z.injEq, Dt.l.injEq, b2i_eq_iff, and_true] at hds
  obtain ⟨k2_i4, k2_l5⟩ := hds
  have k2_l0 : ρ2.l 0 = _ := (ha2 0 (by decide)).2.2.symm.trans k1_l0
  have k2_b1 : ρ2.b 1 = _ := (ha2 1 (by decide)).2.1.symm.trans k1_b1
  have k2_l2 : ρ2.l 2 = _ := (ha2 2 (by decide)).2.2.symm.trans k1_l2
  simp only [k2_l0, k2_b1, k2_l2, k2_i4, k2_l5, spanAt_mk, spR_mk, -eq_self]
  refine ⟨fun c5 => ?_, fun c5 => ?_⟩
  have hi5 : i + 1 < l.length := Int.ofNat_lt.1 (of_decide_eq_true c5)
  refine ⟨fun ds => ∃ (j : Nat) (M : List Row), ds = [.z (j : Int), .l M] ∧ j ≤ i + 1 ∧ M.length = l.length ∧ RowsIn kS M ∧ sink j M = srtN l (i + 1), fun ds => (dI ds 0).toNat, ⟨i + 1, srtN l i, rfl, Nat.le_refl _, srtN_len l i, hiM, rfl⟩, ?_⟩
  intro ρ3 ha3 _ hi3
  obtain ⟨j, M, hds, hj, hMl, hM, hsk⟩ := hi3
  simp only [List.cons.injEq, Dt.z.injEq, Dt.l.injEq, b2i_eq_iff, and_true] at hds
  obtain ⟨k3_i6, k3_l7⟩ := hds
  have k3_l0 : ρ3.l 0 = _ := (ha3 0 (by decide)).2.2.symm.trans k2_l0
  have k3_b1 : ρ3.b 1 = _ := (ha3 1 (by decide)).2.1.symm.trans k2_b1
  have k3_l2 : ρ3.l 2 = _ := (ha3 2 (by decide)).2.2.symm.trans k2_l2
  have k3_i4 : ρ3.i 4 = _ := (ha3 4 (by decide)).1.symm.trans k2_i4
  have k3_l5 : ρ3.l 5 = _ := (ha3 5 (by decide)).2.2.symm.trans k2_l5
  simp only [k3_l0, k3_b1, k3_l2, k3_i4, k3_l5, k3_i6, k3_l7, spanAt_mk, spR_mk, -eq_self]
  refine ⟨fun c6 => ?_, fun c6 => ?_⟩
  refine ⟨fun c7 => ?_, fun c7 => ?_⟩
  · exact absurd (of_decide_eq_true c7) (by omega)
  refine ⟨fun c8 => ?_, fun c8 => ?_⟩
  refine ⟨fun c9 => ?_, fun c9 => ?_⟩
  · obtain ⟨j, rfl⟩ : ∃ q, j = q + 1 := ⟨j - 1, by have := of_decide_eq_true c6; omega⟩
    have hjm : j + 1 ≤ maxLen := by omega
    rw [subN hjm] at c9
    exact absurd (of_decide_eq_true c9) (by omega)
  refine ⟨fun c10 => ?_, fun c10 => ?_⟩
  intro e; (try simp only [e, Span.eta, Place.eta, P11.eta, spanAt_mk, spR_mk, -eq_self]); clear e
  refine ⟨fun c11 => ?_, fun c11 => ?_⟩
  · obtain ⟨j, rfl⟩ : ∃ q, j = q + 1 := ⟨j - 1, by have := of_decide_eq_true c6; omega⟩
    have hjm : j + 1 ≤ maxLen := by omega
    rw [subN hjm] at c11 ⊢
    rw [swp_st hM (by omega)]
    exact ⟨⟨j, swp M j, rfl, by omega, by rw [swp_len, hMl], swp_rows hM (by omega), by rw [← sink_y c11]; exact hsk⟩, by show ((j : Nat) : Int).toNat < (((j + 1 : Nat)) : Int).toNat; omega⟩
  · obtain ⟨j, rfl⟩ : ∃ q, j = q + 1 := ⟨j - 1, by have := of_decide_eq_true c6; omega⟩
    have hjm : j + 1 ≤ maxLen := by omega
    rw [subN hjm] at c11
    rw [sink_n c11] at hsk
    rw [addN hi5 hp, hsk]
    exact ⟨⟨i + 1, rfl, by omega, by rw [← hsk]; exact hM⟩, by show l.length - (((i + 1 + 1 : Nat) : Int)).toNat < l.length - (((i + 1 : Nat) : Int)).toNat; omega⟩
  · obtain ⟨j, rfl⟩ : ∃ q, j = q + 1 := ⟨j - 1, by have := of_decide_eq_true c6; omega⟩
    have hjm : j + 1 ≤ maxLen := by omega
    rw [subN hjm] at c10
    exact absurd (of_decide_eq_false c10) (by omega)
  · exact absurd (of_decide_eq_false c8) (by omega)
  · obtain rfl : j = 0 := by have := of_decide_eq_false c6; omega
    have hsk : M = srtN l (i + 1) := hsk
    rw [addN hi5 hp, hsk]
    exact ⟨⟨i + 1, rfl, by omega, by rw [← hsk]; exact hM⟩, by show l.length - (((i + 1 + 1 : Nat) : Int)).toNat < l.length - (((i + 1 : Nat) : Int)).toNat; omega⟩
  have hS : srtN l i = srt l := srtN_end hi (fun h => of_decide_eq_false c5 (Int.ofNat_lt.2 h))
  rw [hS] at k2_l5
  simp only [hS, -eq_self]
  have hSr : RowsIn kS (srt l) := rows_perm (srt_perm l) hl
  have hSl := srt_len l
  refine ⟨fun ds => ∃ k : Nat, ds = .z (k : Int) :: .l (stN l k).T :: dP (stN l k).K (stN l k).N ∧ k ≤ (srt l).length, fun ds => (srt l).length - (dI ds 0).toNat, ⟨0, rfl, Nat.zero_le _⟩, ?_⟩
  intro ρ3 ha3 hok3 hi3
  obtain ⟨k, hds, hk⟩ := hi3
  have hst := stN_kn l k
  unfold dP at hds
  simp only [List.cons.injEq, Dt.z.injEq, Dt.l.injEq, b2i_eq_iff, and_true] at hds
  obtain ⟨k3_i6, k3_l7, k3_i8, k3_i9, k3_i10, k3_i11, k3_i12, k3_i13, k3_i14, k3_i15, k3_i16, k3_i17, k3_i18, k3_i19, k3_i20, k3_i21, k3_i22, k3_i23, k3_i24, k3_i25, k3_i26, k3_i27, k3_i28, k3_i29⟩ := hds
  have hT3 : RowsIn kT (stN l k).T := by have q := hok3.2.1; rwa [k3_l7] at q
  have k3_l0 : ρ3.l 0 = _ := (ha3 0 (by decide)).2.2.symm.trans k2_l0
  have k3_b1 : ρ3.b 1 = _ := (ha3 1 (by decide)).2.1.symm.trans k2_b1
  have k3_l2 : ρ3.l 2 = _ := (ha3 2 (by decide)).2.2.symm.trans k2_l2
  have k3_i4 : ρ3.i 4 = _ := (ha3 4 (by decide)).1.symm.trans k2_i4
  have k3_l5 : ρ3.l 5 = _ := (ha3 5 (by decide)).2.2.symm.trans k2_l5
  simp only [k3_l0, k3_b1, k3_l2, k3_i4, k3_l5, k3_i6, k3_l7, k3_i8, k3_i9, k3_i10, k3_i11, k3_i12, k3_i13, k3_i14, k3_i15, k3_i16, k3_i17, k3_i18, k3_i19, k3_i20, k3_i21, k3_i22, k3_i23, k3_i24, k3_i25, k3_i26, k3_i27, k3_i28, k3_i29, spanAt_mk, spR_mk, -eq_self]
  refine ⟨fun c12 => ?_, fun c12 => ?_⟩
  refine ⟨fun c13 => ?_, fun c13 => ?_⟩
  · exact absurd (of_decide_eq_true c13) (by omega)
  have hk2 : k < (srt l).length := Int.ofNat_lt.1 (of_decide_eq_true c12)
  have hkm : (srt l).length ≤ maxLen := by rw [hSl]; exact hp
  obtain ⟨s, hs⟩ : ∃ s, s = (srt l).getD k [] := ⟨_, rfl⟩
  have hsO : okS s := by rw [hs]; exact hR.srt.ok (getD_mem hk2)
  have hs4 : rowIn kS s = true := by rw [hs]; exact rowAt4 hSr hk2
  have hrow : [rg s, fr s, tt s, b2i (ov s)] = s := row4 hs4
  have g0' : gt (srt l) (k : Int) 0 = rg s := by rw [hs]; rfl
  have g1' : gt (srt l) (k : Int) 1 = fr s := by rw [hs]; rfl
  have g2' : gt (srt l) (k : Int) 2 = tt s := by rw [hs]; rfl
  have g3' : (gt (srt l) (k : Int) 3 == 1) = ov s := by rw [hs]; rfl
  simp only [g0', g1', g2', g3', hrow, -eq_self]
  refine ⟨CutA (stN l k) s, ?_, ?_⟩
  refine ⟨fun c14 => ?_, fun c14 => ?_⟩
  refine ⟨fun c15 => ?_, fun c15 => ?_⟩
  refine ⟨fun c16 => ?_, fun c16 => ?_⟩
  refine ⟨fun c17 => ?_, fun c17 => ?_⟩
  · exact absurd (of_decide_eq_true c17) (Int.not_lt.2 hsO.1.1)
  refine ⟨fun c18 => ?_, fun c18 => ?_⟩
  · have hb0 := busy_f2 c15 c16
    have hpk : pick (stN l k).T (fr s) (homesL (ov s)) = some 3 := by rw [c14]; simp [homesL, pick, hb0]
    rw [putR_set c15 s]
    exact cutA_y hpk hst.1 hst.2.1 hsO
  · exact absurd hsO.1.2 (of_decide_eq_false c18)
  refine ⟨fun c19 => ?_, fun c19 => ?_⟩
  refine ⟨fun c20 => ?_, fun c20 => ?_⟩
  refine ⟨fun c21 => ?_, fun c21 => ?_⟩
  · exact absurd (of_decide_eq_true c21) (Int.not_lt.2 hsO.1.1)
  refine ⟨fun c22 => ?_, fun c22 => ?_⟩
  · have hb0 := busy_t c15 c16
    have hb1 := busy_f2 c19 c20
    have hpk : pick (stN l k).T (fr s) (homesL (ov s)) = some 9 := by rw [c14]; simp [homesL, pick, hb0, hb1]
    rw [putR_set c19 s]
    exact cutA_y hpk hst.1 hst.2.1 hsO
  · exact absurd hsO.1.2 (of_decide_eq_false c22)
  · have hb0 := busy_t c15 c16
    have hb1 := busy_t c19 c20
    have hpk : pick (stN l k).T (fr s) (homesL (ov s)) = none := by rw [c14]; simp [homesL, pick, hb0, hb1]
    rw [(here_at hT3 c15).1, (here_at hT3 c19).1]
    have q := cutA_n hpk
    rw [c14] at q
    exact q
  refine ⟨fun c23 => ?_, fun c23 => ?_⟩
  refine ⟨fun c24 => ?_, fun c24 => ?_⟩
  · exact absurd (of_decide_eq_true c24) (Int.not_lt.2 hsO.1.1)
  refine ⟨fun c25 => ?_, fun c25 => ?_⟩
  · have hb0 := busy_t c15 c16
    have hb1 := busy_f1 (f := fr s) c19
    have hpk : pick (stN l k).T (fr s) (homesL (ov s)) = some 9 := by rw [c14]; simp [homesL, pick, hb0, hb1]
    rw [putR_app c19 s]
    exact cutA_y hpk hst.1 hst.2.1 hsO
  · exact absurd hsO.1.2 (of_decide_eq_false c25)
  · have := hst.2.2
    exact absurd (of_decide_eq_false c23) (by omega)
  refine ⟨fun c26 => ?_, fun c26 => ?_⟩
  refine ⟨fun c27 => ?_, fun c27 => ?_⟩
  · exact absurd (of_decide_eq_true c27) (Int.not_lt.2 hsO.1.1)
  refine ⟨fun c28 => ?_, fun c28 => ?_⟩
  · have hb0 := busy_f1 (f := fr s) c15
    have hpk : pick (stN l k).T (fr s) (homesL (ov s)) = some 3 := by rw [c14]; simp [homesL, pick, hb0]
    rw [putR_app c15 s]
    exact cutA_y hpk hst.1 hst.2.1 hsO
  · exact absurd hsO.1.2 (of_decide_eq_false c28)
  · have := hst.2.2
    exact absurd (of_decide_eq_false c26) (by omega)
  refine ⟨fun c29 => ?_, fun c29 => ?_⟩
  refine ⟨fun c30 => ?_, fun c30 => ?_⟩
  refine ⟨fun c31 => ?_, fun c31 => ?_⟩
  · exact absurd (of_decide_eq_true c31) (Int.not_lt.2 hsO.1.1)
  refine ⟨fun c32 => ?_, fun c32 => ?_⟩
  · have hb0 := busy_f2 c29 c30
    have hpk : pick (stN l k).T (fr s) (homesL (ov s)) = some 3 := by rw [c14]; simp [homesL, pick, hb0]
    rw [putR_set c29 s]
    exact cutA_y hpk hst.1 hst.2.1 hsO
  · exact absurd hsO.1.2 (of_decide_eq_false c32)
  refine ⟨fun c33 => ?_, fun c33 => ?_⟩
  refine ⟨fun c34 => ?_, fun c34 => ?_⟩
  refine ⟨fun c35 => ?_, fun c35 => ?_⟩
  · exact absurd (of_decide_eq_true c35) (Int.not_lt.2 hsO.1.1)
  refine ⟨fun c36 => ?_, fun c36 => ?_⟩
  · have hb0 := busy_t c29 c30
    have hb1 := busy_f2 c33 c34
    have hpk : pick (stN l k).T (fr s) (homesL (ov s)) = some 9 := by rw [c14]; simp [homesL, pick, hb0, hb1]
    rw [putR_set c33 s]
    exact cutA_y hpk hst.1 hst.2.1 hsO
  · exact absurd hsO.1.2 (of_decide_eq_false c36)
  refine ⟨fun c37 => ?_, fun c37 => ?_⟩
  refine ⟨fun c38 => ?_, fun c38 => ?_⟩
  refine ⟨fun c39 => ?_, fun c39 => ?_⟩
  · exact absurd (of_decide_eq_true c39) (Int.not_lt.2 hsO.1.1)
  refine ⟨fun c40 => ?_, fun c40 => ?_⟩
  · have hb0 := busy_t c29 c30
    have hb1 := busy_t c33 c34
    have hb2 := busy_f2 c37 c38
    have hpk : pick (stN l k).T (fr s) (homesL (ov s)) = some 6 := by rw [c14]; simp [homesL, pick, hb0, hb1, hb2]
    rw [putR_set c37 s]
    exact cutA_y hpk hst.1 hst.2.1 hsO
  · exact absurd hsO.1.2 (of_decide_eq_false c40)
  refine ⟨fun c41 => ?_, fun c41 => ?_⟩
  refine ⟨fun c42 => ?_, fun c42 => ?_⟩
  refine ⟨fun c43 => ?_, fun c43 => ?_⟩
  · exact absurd (of_decide_eq_true c43) (Int.not_lt.2 hsO.1.1)
  refine ⟨fun c44 => ?_, fun c44 => ?_⟩
  · have hb0 := busy_t c29 c30
    have hb1 := busy_t c33 c34
    have hb2 := busy_t c37 c38
    have hb3 := busy_f2 c41 c42
    have hpk : pick (stN l k).T (fr s) (homesL (ov s)) = some 7 := by rw [c14]; simp [homesL, pick, hb0, hb1, hb2, hb3]
    rw [putR_set c41 s]
    exact cutA_y hpk hst.1 hst.2.1 hsO
  · exact absurd hsO.1.2 (of_decide_eq_false c44)
  refine ⟨fun c45 => ?_, fun c45 => ?_⟩
  refine ⟨fun c46 => ?_, fun c46 => ?_⟩
  refine ⟨fun c47 => ?_, fun c47 => ?_⟩
  · exact absurd (of_decide_eq_true c47) (Int.not_lt.2 hsO.1.1)
  refine ⟨fun c48 => ?_, fun c48 => ?_⟩
  · have hb0 := busy_t c29 c30
    have hb1 := busy_t c33 c34
    have hb2 := busy_t c37 c38
    have hb3 := busy_t c41 c42
    have hb4 := busy_f2 c45 c46
    have hpk : pick (stN l k).T (fr s) (homesL (ov s)) = some 8 := by rw [c14]; simp [homesL, pick, hb0, hb1, hb2, hb3, hb4]
    rw [putR_set c45 s]
    exact cutA_y hpk hst.1 hst.2.1 hsO
  · exact absurd hsO.1.2 (of_decide_eq_false c48)
  refine ⟨fun c49 => ?_, fun c49 => ?_⟩
  refine ⟨fun c50 => ?_, fun c50 => ?_⟩
  refine ⟨fun c51 => ?_, fun c51 => ?_⟩
  · exact absurd (of_decide_eq_true c51) (Int.not_lt.2 hsO.1.1)
  refine ⟨fun c52 => ?_, fun c52 => ?_⟩
  · have hb0 := busy_t c29 c30
    have hb1 := busy_t c33 c34
    have hb2 := busy_t c37 c38
    have hb3 := busy_t c41 c42
    have hb4 := busy_t c45 c46
    have hb5 := busy_f2 c49 c50
    have hpk : pick (stN l k).T (fr s) (homesL (ov s)) = some 10 := by rw [c14]; simp [homesL, pick, hb0, hb1, hb2, hb3, hb4, hb5]
    rw [putR_set c49 s]
    exact cutA_y hpk hst.1 hst.2.1 hsO
  · exact absurd hsO.1.2 (of_decide_eq_false c52)
  · have hb0 := busy_t c29 c30
    have hb1 := busy_t c33 c34
    have hb2 := busy_t c37 c38
    have hb3 := busy_t c41 c42
    have hb4 := busy_t c45 c46
    have hb5 := busy_t c49 c50
    have hpk : pick (stN l k).T (fr s) (homesL (ov s)) = none := by rw [c14]; simp [homesL, pick, hb0, hb1, hb2, hb3, hb4, hb5]
    rw [(here_at hT3 c29).1, (here_at hT3 c33).1, (here_at hT3 c37).1, (here_at hT3 c41).1, (here_at hT3 c45).1, (here_at hT3 c49).1]
    have q := cutA_n hpk
    rw [c14] at q
    exact q
  refine ⟨fun c53 => ?_, fun c53 => ?_⟩
  refine ⟨fun c54 => ?_, fun c54 => ?_⟩
  · exact absurd (of_decide_eq_true c54) (Int.not_lt.2 hsO.1.1)
  refine ⟨fun c55 => ?_, fun c55 => ?_⟩
  · have hb0 := busy_t c29 c30
    have hb1 := busy_t c33 c34
    have hb2 := busy_t c37 c38
    have hb3 := busy_t c41 c42
    have hb4 := busy_t c45 c46
    have hb5 := busy_f1 (f := fr s) c49
    have hpk : pick (stN l k).T (fr s) (homesL (ov s)) = some 10 := by rw [c14]; simp [homesL, pick, hb0, hb1, hb2, hb3, hb4, hb5]
    rw [putR_app c49 s]
    exact cutA_y hpk hst.1 hst.2.1 hsO
  · exact absurd hsO.1.2 (of_decide_eq_false c55)
  · have := hst.2.2
    exact absurd (of_decide_eq_false c53) (by omega)
  refine ⟨fun c56 => ?_, fun c56 => ?_⟩
  refine ⟨fun c57 => ?_, fun c57 => ?_⟩
  · exact absurd (of_decide_eq_true c57) (Int.not_lt.2 hsO.1.1)
  refine ⟨fun c58 => ?_, fun c58 => ?_⟩
  · have hb0 := busy_t c29 c30
    have hb1 := busy_t c33 c34
    have hb2 := busy_t c37 c38
    have hb3 := busy_t c41 c42
    have hb4 := busy_f1 (f := fr s) c45
    have hpk : pick (stN l k).T (fr s) (homesL (ov s)) = some 8 := by rw [c14]; simp [homesL, pick, hb0, hb1, hb2, hb3, hb4]
    rw [putR_app c45 s]
    exact cutA_y hpk hst.1 hst.2.1 hsO
  · exact absurd hsO.1.2 (of_decide_eq_false c58)
  · have := hst.2.2
    exact absurd (of_decide_eq_false c56) (by omega)
  refine ⟨fun c59 => ?_, fun c59 => ?_⟩
  refine ⟨fun c60 => ?_, fun c60 => ?_⟩
  · exact absurd (of_decide_eq_true c60) (Int.not_lt.2 hsO.1.1)
  refine ⟨fun c61 => ?_, fun c61 => ?_⟩
  · have hb0 := busy_t c29 c30
    have hb1 := busy_t c33 c34
    have hb2 := busy_t c37 c38
    have hb3 := busy_f1 (f := fr s) c41
    have hpk : pick (stN l k).T (fr s) (homesL (ov s)) = some 7 := by rw [c14]; simp [homesL, pick, hb0, hb1, hb2, hb3]
    rw [putR_app c41 s]
    exact cutA_y hpk hst.1 hst.2.1 hsO
  · exact absurd hsO.1.2 (of_decide_eq_false c61)
  · have := hst.2.2
    exact absurd (of_decide_eq_false c59) (by omega)
  refine ⟨fun c62 => ?_, fun c62 => ?_⟩
  refine ⟨fun c63 => ?_, fun c63 => ?_⟩
  · exact absurd (of_decide_eq_true c63) (Int.not_lt.2 hsO.1.1)
  refine ⟨fun c64 => ?_, fun c64 => ?_⟩
  · have hb0 := busy_t c29 c30
    have hb1 := busy_t c33 c34
    have hb2 := busy_f1 (f := fr s) c37
    have hpk : pick (stN l k).T (fr s) (homesL (ov s)) = some 6 := by rw [c14]; simp [homesL, pick, hb0, hb1, hb2]
    rw [putR_app c37 s]
    exact cutA_y hpk hst.1 hst.2.1 hsO
  · exact absurd hsO.1.2 (of_decide_eq_false c64)
  · have := hst.2.2
    exact absurd (of_decide_eq_false c62) (by omega)
  refine ⟨fun c65 => ?_, fun c65 => ?_⟩
  refine ⟨fun c66 => ?_, fun c66 => ?_⟩
  · exact absurd (of_decide_eq_true c66) (Int.not_lt.2 hsO.1.1)
  refine ⟨fun c67 => ?_, fun c67 => ?_⟩
  · have hb0 := busy_t c29 c30
    have hb1 := busy_f1 (f := fr s) c33
    have hpk : pick (stN l k).T (fr s) (homesL (ov s)) = some 9 := by rw [c14]; simp [homesL, pick, hb0, hb1]
    rw [putR_app c33 s]
    exact cutA_y hpk hst.1 hst.2.1 hsO
  · exact absurd hsO.1.2 (of_decide_eq_false c67)
  · have := hst.2.2
    exact absurd (of_decide_eq_false c65) (by omega)
  refine ⟨fun c68 => ?_, fun c68 => ?_⟩
  refine ⟨fun c69 => ?_, fun c69 => ?_⟩
  · exact absurd (of_decide_eq_true c69) (Int.not_lt.2 hsO.1.1)
  refine ⟨fun c70 => ?_, fun c70 => ?_⟩
  · have hb0 := busy_f1 (f := fr s) c29
    have hpk : pick (stN l k).T (fr s) (homesL (ov s)) = some 3 := by rw [c14]; simp [homesL, pick, hb0]
    rw [putR_app c29 s]
    exact cutA_y hpk hst.1 hst.2.1 hsO
  · exact absurd hsO.1.2 (of_decide_eq_false c70)
  · have := hst.2.2
    exact absurd (of_decide_eq_false c68) (by omega)
  intro ρ4 ha4 hok4 hi4
  obtain ⟨f, H, T', K', N', hds, hcase⟩ := hi4
  have hH : RowsIn kS H := by
    have q := hok4.2.1
    unfold dP at hds
    simp only [List.cons.injEq, Dt.z.injEq, Dt.l.injEq, b2i_eq_iff, and_true] at hds
    rwa [hds.2.1] at q
  unfold dP at hds
  simp only [List.cons.injEq, Dt.z.injEq, Dt.l.injEq, b2i_eq_iff, and_true] at hds
  obtain ⟨k4_b30, k4_l31, k4_l32, k4_i33, k4_i34, k4_i35, k4_i36, k4_i37, k4_i38, k4_i39, k4_i40, k4_i41, k4_i42, k4_i43, k4_i44, k4_i45, k4_i46, k4_i47, k4_i48, k4_i49, k4_i50, k4_i51, k4_i52, k4_i53, k4_i54⟩ := hds
  have k4_l0 : ρ4.l 0 = _ := (ha4 0 (by decide)).2.2.symm.trans k3_l0
  have k4_b1 : ρ4.b 1 = _ := (ha4 1 (by decide)).2.1.symm.trans k3_b1
  have k4_l2 : ρ4.l 2 = _ := (ha4 2 (by decide)).2.2.symm.trans k3_l2
  have k4_i4 : ρ4.i 4 = _ := (ha4 4 (by decide)).1.symm.trans k3_i4
  have k4_l5 : ρ4.l 5 = _ := (ha4 5 (by decide)).2.2.symm.trans k3_l5
  have k4_i6 : ρ4.i 6 = _ := (ha4 6 (by decide)).1.symm.trans k3_i6
  have k4_l7 : ρ4.l 7 = _ := (ha4 7 (by decide)).2.2.symm.trans k3_l7
  have k4_i8 : ρ4.i 8 = _ := (ha4 8 (by decide)).1.symm.trans k3_i8
  have k4_i9 : ρ4.i 9 = _ := (ha4 9 (by decide)).1.symm.trans k3_i9
  have k4_i10 : ρ4.i 10 = _ := (ha4 10 (by decide)).1.symm.trans k3_i10
  have k4_i11 : ρ4.i 11 = _ := (ha4 11 (by decide)).1.symm.trans k3_i11
  have k4_i12 : ρ4.i 12 = _ := (ha4 12 (by decide)).1.symm.trans k3_i12
  have k4_i13 : ρ4.i 13 = _ := (ha4 13 (by decide)).1.symm.trans k3_i13
  have k4_i14 : ρ4.i 14 = _ := (ha4 14 (by decide)).1.symm.trans k3_i14
  have k4_i15 : ρ4.i 15 = _ := (ha4 15 (by decide)).1.symm.trans k3_i15
  have k4_i16 : ρ4.i 16 = _ := (ha4 16 (by decide)).1.symm.trans k3_i16
  have k4_i17 : ρ4.i 17 = _ := (ha4 17 (by decide)).1.symm.trans k3_i17
  have k4_i18 : ρ4.i 18 = _ := (ha4 18 (by decide)).1.symm.trans k3_i18
  have k4_i19 : ρ4.i 19 = _ := (ha4 19 (by decide)).1.symm.trans k3_i19
  have k4_i20 : ρ4.i 20 = _ := (ha4 20 (by decide)).1.symm.trans k3_i20
  have k4_i21 : ρ4.i 21 = _ := (ha4 21 (by decide)).1.symm.trans k3_i21
  have k4_i22 : ρ4.i 22 = _ := (ha4 22 (by decide)).1.symm.trans k3_i22
  have k4_i23 : ρ4.i 23 = _ := (ha4 23 (by decide)).1.symm.trans k3_i23
  have k4_i24 : ρ4.i 24 = _ := (ha4 24 (by decide)).1.symm.trans k3_i24
  have k4_i25 : ρ4.i 25 = _ := (ha4 25 (by decide)).1.symm.trans k3_i25
  have k4_i26 : ρ4.i 26 = _ := (ha4 26 (by decide)).1.symm.trans k3_i26
  have k4_i27 : ρ4.i 27 = _ := (ha4 27 (by decide)).1.symm.trans k3_i27
  have k4_i28 : ρ4.i 28 = _ := (ha4 28 (by decide)).1.symm.trans k3_i28
  have k4_i29 : ρ4.i 29 = _ := (ha4 29 (by decide)).1.symm.trans k3_i29
  simp only [k4_l0, k4_b1, k4_l2, k4_i4, k4_l5, k4_i6, k4_l7, k4_i8, k4_i9, k4_i10, k4_i11, k4_i12, k4_i13, k4_i14, k4_i15, k4_i16, k4_i17, k4_i18, k4_i19, k4_i20, k4_i21, k4_i22, k4_i23, k4_i24, k4_i25, k4_i26, k4_i27, k4_i28, k4_i29, k4_b30, k4_l31, k4_l32, k4_i33, k4_i34, k4_i35, k4_i36, k4_i37, k4_i38, k4_i39, k4_i40, k4_i41, k4_i42, k4_i43, k4_i44, k4_i45, k4_i46, k4_i47, k4_i48, k4_i49, k4_i50, k4_i51, k4_i52, k4_i53, k4_i54, spanAt_mk, spR_mk, g0', g1', g2', g3', hrow, -eq_self]
  refine ⟨fun c71 => ?_, fun c71 => ?_⟩
  · rcases hcase with ⟨hf, h, hpk, rfl, rfl, rfl⟩ | ⟨hf, _⟩
    · rw [addN hk2 hkm]
      exact ⟨⟨k + 1, (by rw [stN_succ hk2, ← hs, stepA_some hpk]; rfl), hk2⟩, by show (srt l).length - (((k + 1 : Nat) : Int)).toNat < (srt l).length - ((k : Int)).toNat; omega⟩
    · rw [hf] at c71; cases c71
  refine ⟨fun c72 => ?_, fun c72 => ?_⟩
  · have hcl : H ≠ [] := by
      rcases hcase with ⟨hf, _⟩ | ⟨hf, hpk, ⟨H', rfl, hw⟩, _⟩
      · rw [hf] at c71; cases c71
      · simp
    have := List.length_pos_iff.2 hcl
    exact absurd (of_decide_eq_true c72) (by omega)
  refine ⟨fun c73 => ?_, fun c73 => ?_⟩
  obtain ⟨hf, hpk, ⟨H', rfl, hw⟩, rfl, rfl, rfl⟩ := hcase.resolve_left (fun q => by rw [q.1] at c71; cases c71)
  refine ⟨fun ds => ∃ (m : Nat) (x : Row), ds = [.z (m : Int), .z (rg x), .z (fr x), .z (tt x), .z (b2i (ov x))] ∧ m ≤ (s :: H').length ∧ worstR x ((s :: H').drop m) = wst (stN l k).T s ∧ rowIn kS x = true, fun ds => (s :: H').length - (dI ds 0).toNat, ⟨1, s, rfl, by simp, hw, hs4⟩, ?_⟩
  intro ρ5 ha5 _ hi5
  obtain ⟨m, x, hds, hm, hw5, hx4⟩ := hi5
  simp only [List.cons.injEq, Dt.z.injEq, Dt.l.injEq, b2i_eq_iff, and_true] at hds
  obtain ⟨k5_i55, k5_i56, k5_i57, k5_i58, k5_b59⟩ := hds
  have k5_l0 : ρ5.l 0 = _ := (ha5 0 (by decide)).2.2.symm.trans k4_l0
  have k5_b1 : ρ5.b 1 = _ := (ha5 1 (by decide)).2.1.symm.trans k4_b1
  have k5_l2 : ρ5.l 2 = _ := (ha5 2 (by decide)).2.2.symm.trans k4_l2
  have k5_i4 : ρ5.i 4 = _ := (ha5 4 (by decide)).1.symm.trans k4_i4
  have k5_l5 : ρ5.l 5 = _ := (ha5 5 (by decide)).2.2.symm.trans k4_l5
  have k5_i6 : ρ5.i 6 = _ := (ha5 6 (by decide)).1.symm.trans k4_i6
  have k5_l7 : ρ5.l 7 = _ := (ha5 7 (by decide)).2.2.symm.trans k4_l7
  have k5_i8 : ρ5.i 8 = _ := (ha5 8 (by decide)).1.symm.trans k4_i8
  have k5_i9 : ρ5.i 9 = _ := (ha5 9 (by decide)).1.symm.trans k4_i9
  have k5_i10 : ρ5.i 10 = _ := (ha5 10 (by decide)).1.symm.trans k4_i10
  have k5_i11 : ρ5.i 11 = _ := (ha5 11 (by decide)).1.symm.trans k4_i11
  have k5_i12 : ρ5.i 12 = _ := (ha5 12 (by decide)).1.symm.trans k4_i12
  have k5_i13 : ρ5.i 13 = _ := (ha5 13 (by decide)).1.symm.trans k4_i13
  have k5_i14 : ρ5.i 14 = _ := (ha5 14 (by decide)).1.symm.trans k4_i14
  have k5_i15 : ρ5.i 15 = _ := (ha5 15 (by decide)).1.symm.trans k4_i15
  have k5_i16 : ρ5.i 16 = _ := (ha5 16 (by decide)).1.symm.trans k4_i16
  have k5_i17 : ρ5.i 17 = _ := (ha5 17 (by decide)).1.symm.trans k4_i17
  have k5_i18 : ρ5.i 18 = _ := (ha5 18 (by decide)).1.symm.trans k4_i18
  have k5_i19 : ρ5.i 19 = _ := (ha5 19 (by decide)).1.symm.trans k4_i19
  have k5_i20 : ρ5.i 20 = _ := (ha5 20 (by decide)).1.symm.trans k4_i20
  have k5_i21 : ρ5.i 21 = _ := (ha5 21 (by decide)).1.symm.trans k4_i21
  have k5_i22 : ρ5.i 22 = _ := (ha5 22 (by decide)).1.symm.trans k4_i22
  have k5_i23 : ρ5.i 23 = _ := (ha5 23 (by decide)).1.symm.trans k4_i23
  have k5_i24 : ρ5.i 24 = _ := (ha5 24 (by decide)).1.symm.trans k4_i24
  have k5_i25 : ρ5.i 25 = _ := (ha5 25 (by decide)).1.symm.trans k4_i25
  have k5_i26 : ρ5.i 26 = _ := (ha5 26 (by decide)).1.symm.trans k4_i26
  have k5_i27 : ρ5.i 27 = _ := (ha5 27 (by decide)).1.symm.trans k4_i27
  have k5_i28 : ρ5.i 28 = _ := (ha5 28 (by decide)).1.symm.trans k4_i28
  have k5_i29 : ρ5.i 29 = _ := (ha5 29 (by decide)).1.symm.trans k4_i29
  have k5_b30 : ρ5.b 30 = _ := (ha5 30 (by decide)).2.1.symm.trans k4_b30
  have k5_l31 : ρ5.l 31 = _ := (ha5 31 (by decide)).2.2.symm.trans k4_l31
  have k5_l32 : ρ5.l 32 = _ := (ha5 32 (by decide)).2.2.symm.trans k4_l32
  have k5_i33 : ρ5.i 33 = _ := (ha5 33 (by decide)).1.symm.trans k4_i33
  have k5_i34 : ρ5.i 34 = _ := (ha5 34 (by decide)).1.symm.trans k4_i34
  have k5_i35 : ρ5.i 35 = _ := (ha5 35 (by decide)).1.symm.trans k4_i35
  have k5_i36 : ρ5.i 36 = _ := (ha5 36 (by decide)).1.symm.trans k4_i36
  have k5_i37 : ρ5.i 37 = _ := (ha5 37 (by decide)).1.symm.trans k4_i37
  have k5_i38 : ρ5.i 38 = _ := (ha5 38 (by decide)).1.symm.trans k4_i38
  have k5_i39 : ρ5.i 39 = _ := (ha5 39 (by decide)).1.symm.trans k4_i39
  have k5_i40 : ρ5.i 40 = _ := (ha5 40 (by decide)).1.symm.trans k4_i40
  have k5_i41 : ρ5.i 41 = _ := (ha5 41 (by decide)).1.symm.trans k4_i41
  have k5_i42 : ρ5.i 42 = _ := (ha5 42 (by decide)).1.symm.trans k4_i42
  have k5_i43 : ρ5.i 43 = _ := (ha5 43 (by decide)).1.symm.trans k4_i43
  have k5_i44 : ρ5.i 44 = _ := (ha5 44 (by decide)).1.symm.trans k4_i44
  have k5_i45 : ρ5.i 45 = _ := (ha5 45 (by decide)).1.symm.trans k4_i45
  have k5_i46 : ρ5.i 46 = _ := (ha5 46 (by decide)).1.symm.trans k4_i46
  have k5_i47 : ρ5.i 47 = _ := (ha5 47 (by decide)).1.symm.trans k4_i47
  have k5_i48 : ρ5.i 48 = _ := (ha5 48 (by decide)).1.symm.trans k4_i48
  have k5_i49 : ρ5.i 49 = _ := (ha5 49 (by decide)).1.symm.trans k4_i49
  have k5_i50 : ρ5.i 50 = _ := (ha5 50 (by decide)).1.symm.trans k4_i50
  have k5_i51 : ρ5.i 51 = _ := (ha5 51 (by decide)).1.symm.trans k4_i51
  have k5_i52 : ρ5.i 52 = _ := (ha5 52 (by decide)).1.symm.trans k4_i52
  have k5_i53 : ρ5.i 53 = _ := (ha5 53 (by decide)).1.symm.trans k4_i53
  have k5_i54 : ρ5.i 54 = _ := (ha5 54 (by decide)).1.symm.trans k4_i54
  simp only [k5_l0, k5_b1, k5_l2, k5_i4, k5_l5, k5_i6, k5_l7, k5_i8, k5_i9, k5_i10, k5_i11, k5_i12, k5_i13, k5_i14, k5_i15, k5_i16, k5_i17, k5_i18, k5_i19, k5_i20, k5_i21, k5_i22, k5_i23, k5_i24, k5_i25, k5_i26, k5_i27, k5_i28, k5_i29, k5_b30, k5_l31, k5_l32, k5_i33, k5_i34, k5_i35, k5_i36, k5_i37, k5_i38, k5_i39, k5_i40, k5_i41, k5_i42, k5_i43, k5_i44, k5_i45, k5_i46, k5_i47, k5_i48, k5_i49, k5_i50, k5_i51, k5_i52, k5_i53, k5_i54, k5_i55, k5_i56, k5_i57, k5_i58, k5_b59, spanAt_mk, spR_mk, g0', g1', g2', g3', hrow, -eq_self]
  refine ⟨fun c74 => ?_, fun c74 => ?_⟩
  refine ⟨fun c75 => ?_, fun c75 => ?_⟩
  · exact absurd (of_decide_eq_true c75) (by omega)
  intro e; (try simp only [e, Span.eta, Place.eta, P11.eta, spanAt_mk, spR_mk, -eq_self]); clear e
  refine ⟨fun c76 => ?_, fun c76 => ?_⟩
  · have hm3 := Int.ofNat_lt.1 (of_decide_eq_true c74)
    rw [addN hm3 hH.len]
    exact ⟨⟨m + 1, (s :: H').getD m [], rfl, hm3, by rw [← worst_y hm3 c76]; exact hw5, rowAt4 hH hm3⟩, by show (s :: H').length - (((m + 1 : Nat) : Int)).toNat < (s :: H').length - ((m : Int)).toNat; omega⟩
  · have hm3 := Int.ofNat_lt.1 (of_decide_eq_true c74)
    rw [addN hm3 hH.len]
    exact ⟨⟨m + 1, x, rfl, hm3, by rw [← worst_n hm3 c76]; exact hw5, hx4⟩, by show (s :: H').length - (((m + 1 : Nat) : Int)).toNat < (s :: H').length - ((m : Int)).toNat; omega⟩
  refine ⟨fun c77 => ?_, fun c77 => ?_⟩
  refine ⟨fun c78 => ?_, fun c78 => ?_⟩
  · have hxs : x = s := by rw [same4 hx4 hs4] at c77; exact of_decide_eq_true c77
    rw [hxs] at c78
    exact absurd (of_decide_eq_true c78) (Int.not_lt.2 hsO.1.1)
  refine ⟨fun c79 => ?_, fun c79 => ?_⟩
  · have hwx : x = wst (stN l k).T s := by rw [worst_end (fun h => of_decide_eq_false c74 (Int.ofNat_lt.2 h))] at hw5; exact hw5
    have hxs : x = s := by rw [same4 hx4 hs4] at c77; exact of_decide_eq_true c77
    rw [hxs] at hwx
    rw [addN hk2 hkm, hxs]
    exact ⟨⟨k + 1, (by rw [stN_succ hk2, ← hs, stepA_self hpk hwx.symm]; dsimp only; rw [dP_set hst.1 hst.2.1 hsO.1.1 hsO.1.2]), hk2⟩, by show (srt l).length - (((k + 1 : Nat) : Int)).toNat < (srt l).length - ((k : Int)).toNat; omega⟩
  · have hxs : x = s := by rw [same4 hx4 hs4] at c77; exact of_decide_eq_true c77
    rw [hxs] at c79
    exact absurd hsO.1.2 (of_decide_eq_false c79)
  have hwx : x = wst (stN l k).T s := by rw [worst_end (fun h => of_decide_eq_false c74 (Int.ofNat_lt.2 h))] at hw5; exact hw5
  have hne : x ≠ s := fun e => by rw [same4 hx4 hs4, decide_eq_true e] at c77; cases c77
  have hxO : okS x := wst_ok hR hk2 hs hpk hwx hne
  refine ⟨fun ds => ds = dP ((stN l k).K.set (rg s).toNat ((stN l k).kd x)) ((stN l k).N.set (rg s).toNat ((stN l k).hn x)), ?_, ?_⟩
  refine ⟨fun c80 => ?_, fun c80 => ?_⟩
  · exact absurd (of_decide_eq_true c80) (Int.not_lt.2 hxO.1.1)
  refine ⟨fun c81 => ?_, fun c81 => ?_⟩
  refine ⟨fun c82 => ?_, fun c82 => ?_⟩
  · exact absurd (of_decide_eq_true c82) (Int.not_lt.2 hsO.1.1)
  refine ⟨fun c83 => ?_, fun c83 => ?_⟩
  · have e1 := kl_get hst.1 (rg x)
    have e2 := kl_get hst.2.1 (rg x)
    rw [dP_set hst.1 hst.2.1 hsO.1.1 hsO.1.2]
    simp only [e1, e2]
    rfl
  · exact absurd hsO.1.2 (of_decide_eq_false c83)
  · exact absurd hxO.1.2 (of_decide_eq_false c81)
  intro ρ6 ha6 _ hi6
  unfold dP at hi6
  simp only [List.cons.injEq, Dt.z.injEq, Dt.l.injEq, b2i_eq_iff, and_true] at hi6
  obtain ⟨k6_i60, k6_i61, k6_i62, k6_i63, k6_i64, k6_i65, k6_i66, k6_i67, k6_i68, k6_i69, k6_i70, k6_i71, k6_i72, k6_i73, k6_i74, k6_i75, k6_i76, k6_i77, k6_i78, k6_i79, k6_i80, k6_i81⟩ := hi6
  have k6_l0 : ρ6.l 0 = _ := (ha6 0 (by decide)).2.2.symm.trans k5_l0
  have k6_b1 : ρ6.b 1 = _ := (ha6 1 (by decide)).2.1.symm.trans k5_b1
  have k6_l2 : ρ6.l 2 = _ := (ha6 2 (by decide)).2.2.symm.trans k5_l2
  have k6_i4 : ρ6.i 4 = _ := (ha6 4 (by decide)).1.symm.trans k5_i4
  have k6_l5 : ρ6.l 5 = _ := (ha6 5 (by decide)).2.2.symm.trans k5_l5
  have k6_i6 : ρ6.i 6 = _ := (ha6 6 (by decide)).1.symm.trans k5_i6
  have k6_l7 : ρ6.l 7 = _ := (ha6 7 (by decide)).2.2.symm.trans k5_l7
  have k6_i8 : ρ6.i 8 = _ := (ha6 8 (by decide)).1.symm.trans k5_i8
  have k6_i9 : ρ6.i 9 = _ := (ha6 9 (by decide)).1.symm.trans k5_i9
  have k6_i10 : ρ6.i 10 = _ := (ha6 10 (by decide)).1.symm.trans k5_i10
  have k6_i11 : ρ6.i 11 = _ := (ha6 11 (by decide)).1.symm.trans k5_i11
  have k6_i12 : ρ6.i 12 = _ := (ha6 12 (by decide)).1.symm.trans k5_i12
  have k6_i13 : ρ6.i 13 = _ := (ha6 13 (by decide)).1.symm.trans k5_i13
  have k6_i14 : ρ6.i 14 = _ := (ha6 14 (by decide)).1.symm.trans k5_i14
  have k6_i15 : ρ6.i 15 = _ := (ha6 15 (by decide)).1.symm.trans k5_i15
  have k6_i16 : ρ6.i 16 = _ := (ha6 16 (by decide)).1.symm.trans k5_i16
  have k6_i17 : ρ6.i 17 = _ := (ha6 17 (by decide)).1.symm.trans k5_i17
  have k6_i18 : ρ6.i 18 = _ := (ha6 18 (by decide)).1.symm.trans k5_i18
  have k6_i19 : ρ6.i 19 = _ := (ha6 19 (by decide)).1.symm.trans k5_i19
  have k6_i20 : ρ6.i 20 = _ := (ha6 20 (by decide)).1.symm.trans k5_i20
  have k6_i21 : ρ6.i 21 = _ := (ha6 21 (by decide)).1.symm.trans k5_i21
  have k6_i22 : ρ6.i 22 = _ := (ha6 22 (by decide)).1.symm.trans k5_i22
  have k6_i23 : ρ6.i 23 = _ := (ha6 23 (by decide)).1.symm.trans k5_i23
  have k6_i24 : ρ6.i 24 = _ := (ha6 24 (by decide)).1.symm.trans k5_i24
  have k6_i25 : ρ6.i 25 = _ := (ha6 25 (by decide)).1.symm.trans k5_i25
  have k6_i26 : ρ6.i 26 = _ := (ha6 26 (by decide)).1.symm.trans k5_i26
  have k6_i27 : ρ6.i 27 = _ := (ha6 27 (by decide)).1.symm.trans k5_i27
  have k6_i28 : ρ6.i 28 = _ := (ha6 28 (by decide)).1.symm.trans k5_i28
  have k6_i29 : ρ6.i 29 = _ := (ha6 29 (by decide)).1.symm.trans k5_i29
  have k6_b30 : ρ6.b 30 = _ := (ha6 30 (by decide)).2.1.symm.trans k5_b30
  have k6_l31 : ρ6.l 31 = _ := (ha6 31 (by decide)).2.2.symm.trans k5_l31
  have k6_l32 : ρ6.l 32 = _ := (ha6 32 (by decide)).2.2.symm.trans k5_l32
  have k6_i33 : ρ6.i 33 = _ := (ha6 33 (by decide)).1.symm.trans k5_i33
  have k6_i34 : ρ6.i 34 = _ := (ha6 34 (by decide)).1.symm.trans k5_i34
  have k6_i35 : ρ6.i 35 = _ := (ha6 35 (by decide)).1.symm.trans k5_i35
  have k6_i36 : ρ6.i 36 = _ := (ha6 36 (by decide)).1.symm.trans k5_i36
  have k6_i37 : ρ6.i 37 = _ := (ha6 37 (by decide)).1.symm.trans k5_i37
  have k6_i38 : ρ6.i 38 = _ := (ha6 38 (by decide)).1.symm.trans k5_i38
  have k6_i39 : ρ6.i 39 = _ := (ha6 39 (by decide)).1.symm.trans k5_i39
  have k6_i40 : ρ6.i 40 = _ := (ha6 40 (by decide)).1.symm.trans k5_i40
  have k6_i41 : ρ6.i 41 = _ := (ha6 41 (by decide)).1.symm.trans k5_i41
  have k6_i42 : ρ6.i 42 = _ := (ha6 42 (by decide)).1.symm.trans k5_i42
  have k6_i43 : ρ6.i 43 = _ := (ha6 43 (by decide)).1.symm.trans k5_i43
  have k6_i44 : ρ6.i 44 = _ := (ha6 44 (by decide)).1.symm.trans k5_i44
  have k6_i45 : ρ6.i 45 = _ := (ha6 45 (by decide)).1.symm.trans k5_i45
  have k6_i46 : ρ6.i 46 = _ := (ha6 46 (by decide)).1.symm.trans k5_i46
  have k6_i47 : ρ6.i 47 = _ := (ha6 47 (by decide)).1.symm.trans k5_i47
  have k6_i48 : ρ6.i 48 = _ := (ha6 48 (by decide)).1.symm.trans k5_i48
  have k6_i49 : ρ6.i 49 = _ := (ha6 49 (by decide)).1.symm.trans k5_i49
  have k6_i50 : ρ6.i 50 = _ := (ha6 50 (by decide)).1.symm.trans k5_i50
  have k6_i51 : ρ6.i 51 = _ := (ha6 51 (by decide)).1.symm.trans k5_i51
  have k6_i52 : ρ6.i 52 = _ := (ha6 52 (by decide)).1.symm.trans k5_i52
  have k6_i53 : ρ6.i 53 = _ := (ha6 53 (by decide)).1.symm.trans k5_i53
  have k6_i54 : ρ6.i 54 = _ := (ha6 54 (by decide)).1.symm.trans k5_i54
  have k6_i55 : ρ6.i 55 = _ := (ha6 55 (by decide)).1.symm.trans k5_i55
  have k6_i56 : ρ6.i 56 = _ := (ha6 56 (by decide)).1.symm.trans k5_i56
  have k6_i57 : ρ6.i 57 = _ := (ha6 57 (by decide)).1.symm.trans k5_i57
  have k6_i58 : ρ6.i 58 = _ := (ha6 58 (by decide)).1.symm.trans k5_i58
  have k6_b59 : ρ6.b 59 = _ := (ha6 59 (by decide)).2.1.symm.trans k5_b59
  simp only [k6_l0, k6_b1, k6_l2, k6_i4, k6_l5, k6_i6, k6_l7, k6_i8, k6_i9, k6_i10, k6_i11, k6_i12, k6_i13, k6_i14, k6_i15, k6_i16, k6_i17, k6_i18, k6_i19, k6_i20, k6_i21, k6_i22, k6_i23, k6_i24, k6_i25, k6_i26, k6_i27, k6_i28, k6_i29, k6_b30, k6_l31, k6_l32, k6_i33, k6_i34, k6_i35, k6_i36, k6_i37, k6_i38, k6_i39, k6_i40, k6_i41, k6_i42, k6_i43, k6_i44, k6_i45, k6_i46, k6_i47, k6_i48, k6_i49, k6_i50, k6_i51, k6_i52, k6_i53, k6_i54, k6_i55, k6_i56, k6_i57, k6_i58, k6_b59, k6_i60, k6_i61, k6_i62, k6_i63, k6_i64, k6_i65, k6_i66, k6_i67, k6_i68, k6_i69, k6_i70, k6_i71, k6_i72, k6_i73, k6_i74, k6_i75, k6_i76, k6_i77, k6_i78, k6_i79, k6_i80, k6_i81, spanAt_mk, spR_mk, g0', g1', g2', g3', hrow, -eq_self]
  have e1 := kl_setK hst.1 hsO.1.1 hsO.1.2 ((stN l k).kd x)
  have e2 := kl_setK hst.2.1 hsO.1.1 hsO.1.2 ((stN l k).hn x)
  simp only [e1, e2, -eq_self]
  refine ⟨fun c84 => ?_, fun c84 => ?_⟩
  · exact absurd (of_decide_eq_true c84) (Int.not_lt.2 hsO.1.1)
  refine ⟨fun c85 => ?_, fun c85 => ?_⟩
  refine ⟨fun c86 => ?_, fun c86 => ?_⟩
  refine ⟨fun c87 => ?_, fun c87 => ?_⟩
  · exact absurd (of_decide_eq_true c87) (Int.not_lt.2 hxO.1.1)
  refine ⟨fun c88 => ?_, fun c88 => ?_⟩
  · rw [putR_set c86 s, addN hk2 hkm]
    exact ⟨⟨k + 1, (by rw [stN_succ hk2, ← hs, stepA_other hpk hwx hne]; dsimp only; rw [dP_set (by rw [List.length_set]; exact hst.1) (by rw [List.length_set]; exact hst.2.1) hxO.1.1 hxO.1.2]), hk2⟩, by show (srt l).length - (((k + 1 : Nat) : Int)).toNat < (srt l).length - ((k : Int)).toNat; omega⟩
  · exact absurd hxO.1.2 (of_decide_eq_false c88)
  refine ⟨fun c89 => ?_, fun c89 => ?_⟩
  refine ⟨fun c90 => ?_, fun c90 => ?_⟩
  · exact absurd (of_decide_eq_true c90) (Int.not_lt.2 hxO.1.1)
  refine ⟨fun c91 => ?_, fun c91 => ?_⟩
  · rw [putR_app c86 s, addN hk2 hkm]
    exact ⟨⟨k + 1, (by rw [stN_succ hk2, ← hs, stepA_other hpk hwx hne]; dsimp only; rw [dP_set (by rw [List.length_set]; exact hst.1) (by rw [List.length_set]; exact hst.2.1) hxO.1.1 hxO.1.2]), hk2⟩, by show (srt l).length - (((k + 1 : Nat) : Int)).toNat < (srt l).length - ((k : Int)).toNat; omega⟩
  · exact absurd hxO.1.2 (of_decide_eq_false c91)
  · have := hst.2.2
    exact absurd (of_decide_eq_false c89) (by omega)
  · exact absurd hsO.1.2 (of_decide_eq_false c85)
  · have hcl : H ≠ [] := by
      rcases hcase with ⟨hf, _⟩ | ⟨hf, hpk, ⟨H', rfl, hw⟩, _⟩
      · rw [hf] at c71; cases c71
      · simp
    have := List.length_pos_iff.2 hcl
    exact absurd (of_decide_eq_false c73) (by omega)
  have hke : stN l k = runA l := stN_end hk (fun h => of_decide_eq_false c12 (Int.ofNat_lt.2 h))
  refine ⟨fun ds => ∃ q : Nat, ds = .z (q : Int) :: .z ((cntK (stN l k).K q : Nat) : Int) :: dP (stN l k).K (numb (stN l k).K (stN l k).N q) ∧ q ≤ 11, fun ds => 11 - (dI ds 0).toNat, ⟨0, rfl, Nat.zero_le _⟩, ?_⟩
  intro ρ4 ha4 _ hi4
  obtain ⟨q, hds, hq⟩ := hi4
  unfold dP at hds
  simp only [List.cons.injEq, Dt.z.injEq, Dt.l.injEq, b2i_eq_iff, and_true] at hds
  obtain ⟨k4_i30, k4_i31, k4_i32, k4_i33, k4_i34, k4_i35, k4_i36, k4_i37, k4_i38, k4_i39, k4_i40, k4_i41, k4_i42, k4_i43, k4_i44, k4_i45, k4_i46, k4_i47, k4_i48, k4_i49, k4_i50, k4_i51, k4_i52, k4_i53⟩ := hds
  have k4_l0 : ρ4.l 0 = _ := (ha4 0 (by decide)).2.2.symm.trans k3_l0
  have k4_b1 : ρ4.b 1 = _ := (ha4 1 (by decide)).2.1.symm.trans k3_b1
  have k4_l2 : ρ4.l 2 = _ := (ha4 2 (by decide)).2.2.symm.trans k3_l2
  have k4_i4 : ρ4.i 4 = _ := (ha4 4 (by decide)).1.symm.trans k3_i4
  have k4_l5 : ρ4.l 5 = _ := (ha4 5 (by decide)).2.2.symm.trans k3_l5
  have k4_i6 : ρ4.i 6 = _ := (ha4 6 (by decide)).1.symm.trans k3_i6
  have k4_l7 : ρ4.l 7 = _ := (ha4 7 (by decide)).2.2.symm.trans k3_l7
  have k4_i8 : ρ4.i 8 = _ := (ha4 8 (by decide)).1.symm.trans k3_i8
  have k4_i9 : ρ4.i 9 = _ := (ha4 9 (by decide)).1.symm.trans k3_i9
  have k4_i10 : ρ4.i 10 = _ := (ha4 10 (by decide)).1.symm.trans k3_i10
  have k4_i11 : ρ4.i 11 = _ := (ha4 11 (by decide)).1.symm.trans k3_i11
  have k4_i12 : ρ4.i 12 = _ := (ha4 12 (by decide)).1.symm.trans k3_i12
  have k4_i13 : ρ4.i 13 = _ := (ha4 13 (by decide)).1.symm.trans k3_i13
  have k4_i14 : ρ4.i 14 = _ := (ha4 14 (by decide)).1.symm.trans k3_i14
  have k4_i15 : ρ4.i 15 = _ := (ha4 15 (by decide)).1.symm.trans k3_i15
  have k4_i16 : ρ4.i 16 = _ := (ha4 16 (by decide)).1.symm.trans k3_i16
  have k4_i17 : ρ4.i 17 = _ := (ha4 17 (by decide)).1.symm.trans k3_i17
  have k4_i18 : ρ4.i 18 = _ := (ha4 18 (by decide)).1.symm.trans k3_i18
  have k4_i19 : ρ4.i 19 = _ := (ha4 19 (by decide)).1.symm.trans k3_i19
  have k4_i20 : ρ4.i 20 = _ := (ha4 20 (by decide)).1.symm.trans k3_i20
  have k4_i21 : ρ4.i 21 = _ := (ha4 21 (by decide)).1.symm.trans k3_i21
  have k4_i22 : ρ4.i 22 = _ := (ha4 22 (by decide)).1.symm.trans k3_i22
  have k4_i23 : ρ4.i 23 = _ := (ha4 23 (by decide)).1.symm.trans k3_i23
  have k4_i24 : ρ4.i 24 = _ := (ha4 24 (by decide)).1.symm.trans k3_i24
  have k4_i25 : ρ4.i 25 = _ := (ha4 25 (by decide)).1.symm.trans k3_i25
  have k4_i26 : ρ4.i 26 = _ := (ha4 26 (by decide)).1.symm.trans k3_i26
  have k4_i27 : ρ4.i 27 = _ := (ha4 27 (by decide)).1.symm.trans k3_i27
  have k4_i28 : ρ4.i 28 = _ := (ha4 28 (by decide)).1.symm.trans k3_i28
  have k4_i29 : ρ4.i 29 = _ := (ha4 29 (by decide)).1.symm.trans k3_i29
  simp only [k4_l0, k4_b1, k4_l2, k4_i4, k4_l5, k4_i6, k4_l7, k4_i8, k4_i9, k4_i10, k4_i11, k4_i12, k4_i13, k4_i14, k4_i15, k4_i16, k4_i17, k4_i18, k4_i19, k4_i20, k4_i21, k4_i22, k4_i23, k4_i24, k4_i25, k4_i26, k4_i27, k4_i28, k4_i29, k4_i30, k4_i31, k4_i32, k4_i33, k4_i34, k4_i35, k4_i36, k4_i37, k4_i38, k4_i39, k4_i40, k4_i41, k4_i42, k4_i43, k4_i44, k4_i45, k4_i46, k4_i47, k4_i48, k4_i49, k4_i50, k4_i51, k4_i52, k4_i53, spanAt_mk, spR_mk, -eq_self]
  have e1 := kl_get hst.1 ((q : Nat) : Int)
  simp only [e1, -eq_self]
  refine ⟨fun c92 => ?_, fun c92 => ?_⟩
  refine ⟨fun c93 => ?_, fun c93 => ?_⟩
  · exact absurd (of_decide_eq_true c93) (by omega)
  refine ⟨fun c94 => ?_, fun c94 => ?_⟩
  · have hcl := cntK_le (stN l k).K q
    have hq2 : q < 11 := Int.ofNat_lt.1 (of_decide_eq_true c92)
    rw [addN hq2 (by decide), add8 (by omega)]
    have h2 : (stN l k).K.getD q 0 = 2 := eqI c94
    have e3 : numb (stN l k).K (stN l k).N (q + 1) = (numb (stN l k).K (stN l k).N q).set ((q : Nat) : Int).toNat ((cntK (stN l k).K q : Nat) : Int) := by rw [numb, if_pos h2]; rfl
    have e4 : cntK (stN l k).K (q + 1) = cntK (stN l k).K q + 1 := by rw [cntK, if_pos h2]
    exact ⟨⟨q + 1, (by rw [e3, e4, dP_setN (by rw [numb_len]; exact hst.2.1) (Int.natCast_nonneg q) (by omega)]), hq2⟩, by show 11 - (((q + 1 : Nat) : Int)).toNat < 11 - ((q : Int)).toNat; omega⟩
  · have hq2 : q < 11 := Int.ofNat_lt.1 (of_decide_eq_true c92)
    rw [addN hq2 (by decide)]
    have h2 : ¬ (stN l k).K.getD q 0 = 2 := neI c94
    have e3 : numb (stN l k).K (stN l k).N (q + 1) = numb (stN l k).K (stN l k).N q := by rw [numb, if_neg h2]
    have e4 : cntK (stN l k).K (q + 1) = cntK (stN l k).K q := by rw [cntK, if_neg h2]; rfl
    exact ⟨⟨q + 1, (by rw [e3, e4]; rfl), hq2⟩, by show 11 - (((q + 1 : Nat) : Int)).toNat < 11 - ((q : Int)).toNat; omega⟩
  · obtain rfl : q = 11 := by have := of_decide_eq_false c92; omega
    rw [aRun_y c0, ← hke]; try rfl
  · rw [aRun_n c0]; try rfl
theorem sK_arun {sp : Spec} {key : Nat} (hF : sp.F key = sF_arun) (hP : sp.pre key = sQ_arun) : SmOk Try.prog sp (sM_arun key) :=
  fun_ok (s := sM_arun key) hF hP (by kernel_rfl) tysok_AlF (smc (sK_aright rfl rfl) (smc (sK_acm1 rfl) (smc (sK_acm2 rfl) (smc (sK_blen rfl) sm0)))) Try.func7 (fnc Try.func12 (fnc Try.func13 (fnc Try.func22 (fnc Try.func27 (fnc Try.func17 (fnc Try.func18 (fnc Try.func19 (fnc Try.func25 (fnc Try.func23 fn0))))))))) sR_arun (.inr (fun xs h L hL => by unfold sQ_arun at h; split at h <;> first | exact h.elim | (simp at hL; subst hL; exact h))) (fun x0 gx0 hp ρ g => sX_arun x0 gx0 hp ρ g)
end Go.Proofs.Ytoaffiooliclgaa
