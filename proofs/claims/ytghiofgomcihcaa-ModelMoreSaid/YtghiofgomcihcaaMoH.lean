/- The law ModelMore. -/
import Derived.Test.YtghiofgomcihcaaMoF
import Derived.Test.YtghiofgomcihcaaLiQ
import Derived.Test.YtghiofgomcihcaaMoI
import Derived.Test.YtghiofgomcihcaaProg
import Derived.Laws.Externs
set_option linter.unusedVariables false
set_option linter.unusedSimpArgs false
namespace Go.Proofs.Ytghiofgomcihcaa
open Go.RowKit Go.ChangeShapes Go.WideShapes

theorem rwU8 : Rw Try.prog 5 [some .u8] := Rw.int .u8 Try.underlying5 (by kernel_rfl)
theorem rwU64 : Rw Try.prog 30 [some .u64] := Rw.int .u64 Try.underlying30 (by kernel_rfl)
def tys_MoH : List (Nat × TI) := [(3, ⟨false, 1, [.int .i64 (.lit 0)], [], none, some .i64, false, false, none, 8, false, none, false, 0⟩),
 (4, ⟨false, 1, [.bool (.tt false)], [], none, none, false, true, none, 1, false, none, false, 0⟩),
 (5, ⟨false, 1, [.int .u8 (.lit 0)], [], none, some .u8, false, false, none, 1, false, none, false, 0⟩),
 (22, ⟨false, 1, [.nsl], [], none, none, false, false, some 44, 24, false, none, false, 0⟩),
 (24, ⟨true, 2, [.int .i64 (.lit 0), .nsl], [(0, 3), (1, 22)], none, none, false, false, none, 32, false, none, false, 0⟩),
 (25, ⟨false, 1, [.nsl], [], none, none, false, false, some 5, 24, false, none, false, 0⟩),
 (26, ⟨false, 1, [.nsl], [], none, none, false, false, some 30, 24, false, none, false, 0⟩),
 (29, ⟨false, 1, [.int .i8 (.lit 0)], [], none, some .i8, false, false, none, 1, false, none, false, 0⟩),
 (30, ⟨false, 1, [.int .u64 (.lit 0)], [], none, some .u64, false, false, none, 8, false, none, false, 0⟩),
 (31, ⟨false, 1, [.nsl], [], none, none, false, false, some 39, 24, false, none, false, 0⟩),
 (33, ⟨true, 5, [.int .i8 (.lit 0), .int .u64 (.lit 0), .nsl, .nsl, .int .i64 (.lit 0)], [(0, 29), (1, 30), (2, 25), (3, 31), (4, 3)], none, none, false, false, none, 72, false, none, false, 0⟩),
 (34, ⟨false, 1, [.int .i64 (.lit 0)], [], none, some .i64, false, false, none, 8, false, none, false, 0⟩),
 (39, ⟨true, 3, [.int .i64 (.lit 0), .nsl, .int .u64 (.lit 0)], [(0, 3), (1, 26), (2, 30)], none, none, false, false, none, 40, false, none, false, 0⟩),
 (44, ⟨true, 9, [.int .i8 (.lit 0), .int .i8 (.lit 0), .int .i8 (.lit 0), .int .i8 (.lit 0), .bool (.tt false), .int .i8 (.lit 0), .int .i8 (.lit 0), .int .i64 (.lit 0), .int .i64 (.lit 0)], [(0, 29), (1, 29), (2, 29), (3, 29), (4, 4), (5, 29), (6, 29), (7, 3), (8, 3)], none, none, true, false, none, 24, false, none, false, 0⟩)]
set_option maxRecDepth 100000 in
theorem tysck_MoH : (tys_MoH.all fun p => ckTI Try.prog p.1 p.2) = true := by kernel_rfl
theorem tyseq_MoH : (tys_MoH.all fun p => !p.2.eqok || ((Nat.beq p.1 44 && kindsC p.2.zero z_Ins))) = true := by kernel_rfl
theorem tyskn_MoH : (tys_MoH.all fun p => !p.2.keyok) = true := by kernel_rfl
theorem tysok_MoH : ∀ t i, (t, i) ∈ tys_MoH → TIok Try.prog t i := by
  intro t i h
  refine TIok_of (all_at (f := ckTI Try.prog) tysck_MoH h) (fun he => ?_) (fun he => ?_) (fun he => ?_)
  · have h1 := List.all_eq_true.1 tyseq_MoH (t, i) h
    simp only [he, Bool.not_true, Bool.false_or, Bool.or_eq_true, Bool.and_eq_true] at h1
    have hs := h1.2
    obtain rfl := Nat.eq_of_beq_eq_true h1.1
    exact fun vs us hv hu => eq_Ins vs us (kindsV_of hs hv) (kindsV_of hs hu)
  · have h1 := List.all_eq_true.1 tyseq_MoH (t, i) h
    simp only [he, Bool.not_true, Bool.false_or, Bool.or_eq_true, Bool.and_eq_true] at h1
    have hs := h1.2
    obtain rfl := Nat.eq_of_beq_eq_true h1.1
    exact grd_Ins
  · have h1 := List.all_eq_true.1 tyskn_MoH (t, i) h
    simp [he] at h1
def sV_lmore (p : Prog) (cx : List (List Int)) (an : List (List Int)) (ot : List (List Int)) (fu : Int) (more : Int) : List Dt := [.z (b2i true)]
def sF_lmore : List Dt → List Dt
  | [.z x0, .l x1, .l x2, .l x3, .l x4, .z x5, .z x6] => sV_lmore ⟨x0, x1⟩ x2 x3 x4 x5 x6
  | _ => []
set_option maxRecDepth 100000 in
def sT_lmore : Tr :=
(.br (.lt (.lit 100) (.len (.lvar 1)))
(.call 1 [.bool] .nil 7
(.leaf (.consb (.bvar 7) .nil)))
(.br (.lt (.lit 400) (.len (.lvar 2)))
(.call 1 [.bool] .nil 7
(.leaf (.consb (.bvar 7) .nil)))
(.br (.lt (.lit 400) (.len (.lvar 3)))
(.call 1 [.bool] .nil 7
(.leaf (.consb (.bvar 7) .nil)))
(.br (.lt (.lit 2000) (.var 5))
(.br (.lt (.lit 10000) (.var 5))
(.br (.lt (.lit 400) (.len (.lvar 4)))
(.call 1 [.bool] .nil 7
(.leaf (.consb (.bvar 7) .nil)))
(.call 0 (kOut ++ [.int .i64]) (.cons (.var 0) (.consl (.lvar 1) (.consl (.lvar 2) (.consl (.lvar 3) (.cons (.var 5) .nil))))) 7
(.br (.eq (.var 12) (.lit 0))
(.br (.lt (.lit 10000) (.bin .add .i64 (.var 5) (.bin .rem .i64 (.bin .add .i64 (.bin .rem .i64 (.var 6) (.lit 1001)) (.lit 1001)) (.lit 1001))))
(.call 1 [.bool] .nil 13
(.leaf (.consb (.bvar 13) .nil)))
(.call 0 (kOut ++ [.int .i64]) (.cons (.var 0) (.consl (.lvar 1) (.consl (.lvar 2) (.consl (.lvar 3) (.cons (.bin .add .i64 (.var 5) (.bin .rem .i64 (.bin .add .i64 (.bin .rem .i64 (.var 6) (.lit 1001)) (.lit 1001)) (.lit 1001))) .nil))))) 13
(.br (.eq (.var 18) (.lit 0))
(.br (.lt (.var 11) (.lit 0))
(.leaf (.consb (.tt false) .nil))
(.br (.lt (.var 5) (.var 11))
(.leaf (.consb (.tt false) .nil))
(.br (.lt (.len (.lvar 3)) (.len (.lvar 10)))
(.leaf (.consb (.tt false) .nil))
(.call 3 [.bool] (.consl (.lvar 10) (.consl (.lvar 16) .nil)) 19
(.br (.bvar 19)
(.loop 0 20 [.int .i64] (.cons (.lit 0) .nil)
(.br (.lt (.var 20) (.len (.lvar 10)))
(.br (.lt (.var 20) (.lit 0))
.panic
(.br (.lt (.var 20) (.len (.lvar 3)))
(.br (.eq (.get (.lvar 10) (.var 20) 1) (.get (.lvar 3) (.var 20) 0))
(.br (.lt (.get (.lvar 10) (.var 20) 0) (.lit 0))
(.leaf (.consb (.tt false) .nil))
(.br (.lt (.get (.lvar 10) (.var 20) 0) (.lit 16))
(.call 5 [.int .i64] (.cons (.get (.lvar 10) (.var 20) 0) .nil) 21
(.br (.eq (.conv .i64 (.len (.ltake (.lapp (.lapp (.lapp (.lapp (.lapp .lnil (.cons (.get (.lvar 10) (.var 20) 3) .nil)) (.cons (.get (.lvar 10) (.var 20) 4) .nil)) (.cons (.get (.lvar 10) (.var 20) 5) .nil)) (.cons (.get (.lvar 10) (.var 20) 6) .nil)) (.cons (.get (.lvar 10) (.var 20) 7) .nil)) (.get (.lvar 10) (.var 20) 2)))) (.var 21))
(.next 0 (.cons (.bin .add .i64 (.var 20) (.lit 1)) .nil))
(.leaf (.consb (.tt false) .nil))))
(.leaf (.consb (.tt false) .nil))))
(.leaf (.consb (.tt false) .nil)))
.panic))
(.br (.eq (.var 7) (.lit 0))
(.br (.eq (.var 11) (.lit 0))
(.br (.lt (.bin .rem .i64 (.bin .add .i64 (.bin .rem .i64 (.var 6) (.lit 1001)) (.lit 1001)) (.lit 1001)) (.var 17))
(.leaf (.consb (.tt false) .nil))
(.call 1 [.bool] .nil 21
(.leaf (.consb (.bvar 21) .nil))))
(.leaf (.consb (.tt false) .nil)))
(.call 4 [.bool] (.vs 7 2 (.consl (.lvar 9) (.consl (.lvar 10) (.cons (.var 11) (.vs 13 2 (.consl (.lvar 15) (.consl (.lvar 16) (.cons (.var 17) .nil)))))))) 21
(.br (.bvar 21)
(.br (.eq (.var 17) (.bin .add .i64 (.var 11) (.bin .rem .i64 (.bin .add .i64 (.bin .rem .i64 (.var 6) (.lit 1001)) (.lit 1001)) (.lit 1001))))
(.br (.eq (.var 7) (.lit 2))
(.br (.eq (.len (.lvar 10)) (.len (.lvar 3)))
(.call 1 [.bool] .nil 22
(.leaf (.consb (.bvar 22) .nil)))
(.leaf (.consb (.tt false) .nil)))
(.br (.lt (.len (.ltake (.lvar 3) (.len (.lvar 10)))) (.lit 1073741824))
(.br (.lt (.len (.lvar 4)) (.lit 1073741824))
(.call 0 (kOut ++ [.int .i64]) (.cons (.var 0) (.consl (.lvar 1) (.consl (.lvar 2) (.consl (.lcat (.ltake (.lvar 3) (.len (.lvar 10))) (.lvar 4)) (.cons (.var 5) .nil))))) 22
(.br (.eq (.var 27) (.lit 0))
(.call 2 [.bool] (.vs 7 2 (.consl (.lvar 9) (.consl (.lvar 10) (.cons (.var 11) (.vs 22 2 (.consl (.lvar 24) (.consl (.lvar 25) (.cons (.var 26) .nil)))))))) 28
(.br (.bvar 28)
(.call 1 [.bool] .nil 29
(.leaf (.consb (.bvar 29) .nil)))
(.leaf (.consb (.tt false) .nil))))
(.leaf (.consb (.tt false) .nil))))
.panic)
.panic))
(.leaf (.consb (.tt false) .nil)))
(.leaf (.consb (.tt false) .nil)))))))
(.leaf (.consb (.tt false) .nil)))))))
(.leaf (.consb (.tt false) .nil)))))
(.call 1 [.bool] .nil 13
(.leaf (.consb (.bvar 13) .nil))))))
(.call 1 [.bool] .nil 7
(.leaf (.consb (.bvar 7) .nil))))
(.br (.lt (.lit 400) (.len (.lvar 4)))
(.call 1 [.bool] .nil 7
(.leaf (.consb (.bvar 7) .nil)))
(.call 0 (kOut ++ [.int .i64]) (.cons (.var 0) (.consl (.lvar 1) (.consl (.lvar 2) (.consl (.lvar 3) (.cons (.var 5) .nil))))) 7
(.br (.eq (.var 12) (.lit 0))
(.br (.lt (.lit 10000) (.bin .add .i64 (.var 5) (.bin .rem .i64 (.bin .add .i64 (.bin .rem .i64 (.var 6) (.lit 1001)) (.lit 1001)) (.lit 1001))))
(.call 1 [.bool] .nil 13
(.leaf (.consb (.bvar 13) .nil)))
(.call 0 (kOut ++ [.int .i64]) (.cons (.var 0) (.consl (.lvar 1) (.consl (.lvar 2) (.consl (.lvar 3) (.cons (.bin .add .i64 (.var 5) (.bin .rem .i64 (.bin .add .i64 (.bin .rem .i64 (.var 6) (.lit 1001)) (.lit 1001)) (.lit 1001))) .nil))))) 13
(.br (.eq (.var 18) (.lit 0))
(.br (.lt (.var 11) (.lit 0))
(.leaf (.consb (.tt false) .nil))
(.br (.lt (.var 5) (.var 11))
(.leaf (.consb (.tt false) .nil))
(.br (.lt (.len (.lvar 3)) (.len (.lvar 10)))
(.leaf (.consb (.tt false) .nil))
(.call 3 [.bool] (.consl (.lvar 10) (.consl (.lvar 16) .nil)) 19
(.br (.bvar 19)
(.loop 0 20 [.int .i64] (.cons (.lit 0) .nil)
(.br (.lt (.var 20) (.len (.lvar 10)))
(.br (.lt (.var 20) (.lit 0))
.panic
(.br (.lt (.var 20) (.len (.lvar 3)))
(.br (.eq (.get (.lvar 10) (.var 20) 1) (.get (.lvar 3) (.var 20) 0))
(.br (.lt (.get (.lvar 10) (.var 20) 0) (.lit 0))
(.leaf (.consb (.tt false) .nil))
(.br (.lt (.get (.lvar 10) (.var 20) 0) (.lit 16))
(.call 5 [.int .i64] (.cons (.get (.lvar 10) (.var 20) 0) .nil) 21
(.br (.eq (.conv .i64 (.len (.ltake (.lapp (.lapp (.lapp (.lapp (.lapp .lnil (.cons (.get (.lvar 10) (.var 20) 3) .nil)) (.cons (.get (.lvar 10) (.var 20) 4) .nil)) (.cons (.get (.lvar 10) (.var 20) 5) .nil)) (.cons (.get (.lvar 10) (.var 20) 6) .nil)) (.cons (.get (.lvar 10) (.var 20) 7) .nil)) (.get (.lvar 10) (.var 20) 2)))) (.var 21))
(.next 0 (.cons (.bin .add .i64 (.var 20) (.lit 1)) .nil))
(.leaf (.consb (.tt false) .nil))))
(.leaf (.consb (.tt false) .nil))))
(.leaf (.consb (.tt false) .nil)))
.panic))
(.br (.eq (.var 7) (.lit 0))
(.br (.eq (.var 11) (.lit 0))
(.br (.lt (.bin .rem .i64 (.bin .add .i64 (.bin .rem .i64 (.var 6) (.lit 1001)) (.lit 1001)) (.lit 1001)) (.var 17))
(.leaf (.consb (.tt false) .nil))
(.call 1 [.bool] .nil 21
(.leaf (.consb (.bvar 21) .nil))))
(.leaf (.consb (.tt false) .nil)))
(.call 4 [.bool] (.vs 7 2 (.consl (.lvar 9) (.consl (.lvar 10) (.cons (.var 11) (.vs 13 2 (.consl (.lvar 15) (.consl (.lvar 16) (.cons (.var 17) .nil)))))))) 21
(.br (.bvar 21)
(.br (.eq (.var 17) (.bin .add .i64 (.var 11) (.bin .rem .i64 (.bin .add .i64 (.bin .rem .i64 (.var 6) (.lit 1001)) (.lit 1001)) (.lit 1001))))
(.br (.eq (.var 7) (.lit 2))
(.br (.eq (.len (.lvar 10)) (.len (.lvar 3)))
(.call 1 [.bool] .nil 22
(.leaf (.consb (.bvar 22) .nil)))
(.leaf (.consb (.tt false) .nil)))
(.br (.lt (.len (.ltake (.lvar 3) (.len (.lvar 10)))) (.lit 1073741824))
(.br (.lt (.len (.lvar 4)) (.lit 1073741824))
(.call 0 (kOut ++ [.int .i64]) (.cons (.var 0) (.consl (.lvar 1) (.consl (.lvar 2) (.consl (.lcat (.ltake (.lvar 3) (.len (.lvar 10))) (.lvar 4)) (.cons (.var 5) .nil))))) 22
(.br (.eq (.var 27) (.lit 0))
(.call 2 [.bool] (.vs 7 2 (.consl (.lvar 9) (.consl (.lvar 10) (.cons (.var 11) (.vs 22 2 (.consl (.lvar 24) (.consl (.lvar 25) (.cons (.var 26) .nil)))))))) 28
(.br (.bvar 28)
(.call 1 [.bool] .nil 29
(.leaf (.consb (.bvar 29) .nil)))
(.leaf (.consb (.tt false) .nil))))
(.leaf (.consb (.tt false) .nil))))
.panic)
.panic))
(.leaf (.consb (.tt false) .nil)))
(.leaf (.consb (.tt false) .nil)))))))
(.leaf (.consb (.tt false) .nil)))))))
(.leaf (.consb (.tt false) .nil)))))
(.call 1 [.bool] .nil 13
(.leaf (.consb (.bvar 13) .nil))))))))))
def sP_lmore : Spec := ⟨fun k => match k with | 0 => sF_mrun | 1 => sF_lwakes | 2 => sF_esame | 3 => sF_ebegins | 4 => sF_elike | 5 => sF_jargs | _ => fun _ => [], fun k => match k with | 0 => sQ_mrun | _ => fun _ => True⟩
set_option maxRecDepth 100000 in
theorem sR_lmore : treeIs tys_MoH [sM_mrun 0, sM_lwakes 1, sM_esame 2, sM_ebegins 3, sM_elike 4, sM_jargs 5] [(9, Try.f9, [], []), (13, Try.f13, [], [])] [(14, [.tmpI 18 .i64, .top 93, .top 94, .top 95, .top 98, .top 99, .top 100, .top 101, .top 102, .top 103, .top 104, .top 105, .top 106, .top 107, .top 108, .top 109, .top 110, .top 111, .top 112, .top 113, .top 114, .top 115, .top 116, .top 117, .top 12, .top 96, .top 97]), (999999, [])] [] 200 Try.f3 [.agg kProg, .one (.sl [some .u8] 5), .one (.sl [some .u64] 30), .one (.sl [some .u64] 30), .one (.int .i64), .one (.int .i64)] [.one .bool] false [.int .i64, .list [some .i8, some .i8, some .i8, some .i8, none, some .i8, some .i8, some .i64, some .i64], .list [some .u8], .list [some .u64], .list [some .u64], .int .i64, .int .i64] sT_lmore := ⟨by kernel_rfl, by kernel_rfl, by kernel_rfl⟩
set_option maxRecDepth 100000 in
set_option maxHeartbeats 8000000 in
theorem sX_lmore (p : Prog) (hp : Prog.ok p) (cx : List (List Int)) (hcx : RowsIn [some .u8] cx) (an : List (List Int)) (han : RowsIn [some .u64] an) (ot : List (List Int)) (hot : RowsIn [some .u64] ot) (fu : Int) (hfu : inK .i64 fu = true) (more : Int) (hmore : inK .i64 more = true) (ρ : Env) (g : varsD ρ 0 [.int .i64, .list [some .i8, some .i8, some .i8, some .i8, none, some .i8, some .i8, some .i64, some .i64], .list [some .u8], .list [some .u64], .list [some .u64], .int .i64, .int .i64] = [.z p.ctx, .l p.l, .l cx, .l an, .l ot, .z fu, .z more]) : sT_lmore.asks sP_lmore (fun ρ e => e.D ρ = sF_lmore [.z p.ctx, .l p.l, .l cx, .l an, .l ot, .z fu, .z more]) ρ fun _ _ => False := by
  have keepg := g
  simp only [varsD, varD, List.cons.injEq, Dt.z.injEq, Dt.l.injEq, b2i_eq_iff, Nat.reduceAdd, and_true] at g
  simp only [sT_lmore, sP_lmore, kOut, sF_mrun, sF_lwakes, sF_esame, sF_ebegins, sF_elike, sF_jargs, sV_mrun, sV_esame, sV_ebegins, sV_elike, sV_jargs, sF_lmore, sV_lmore, sQ_mrun, Tr.asks, upd_same, okDs, okD, eqs, E.I, E.B, E.L, E.R, E.D, E.vs, dI, dB, dL, varD, varsD, List.getElem?_cons_zero, List.getElem?_cons_succ, List.cons_append, List.nil_append, Nat.zero_add, Nat.add_zero, Nat.reduceAdd, and_true, true_and, b2i_one, -eq_self, Ins.eta, Prog.eta, insAt_mk, Mem.eta, Mach.eta, g]
  obtain ⟨k0_i0, k0_l1, k0_l2, k0_l3, k0_l4, k0_i5, k0_i6⟩ := g
  have hM := mod1001_bd more
  simp only [show ∀ x, opI .rem .i64 (opI .add .i64 (opI .rem .i64 x 1001) 1001) 1001 = mod1001 x from fun _ => rfl]
  refine ⟨fun c0 => ?_, fun c0 => ?_⟩
  intro e; (try simp only [e, Ins.eta, Prog.eta, insAt_mk, Mem.eta, Mach.eta, -eq_self]); clear e
  · rfl
  refine ⟨fun c1 => ?_, fun c1 => ?_⟩
  intro e; (try simp only [e, Ins.eta, Prog.eta, insAt_mk, Mem.eta, Mach.eta, -eq_self]); clear e
  · rfl
  refine ⟨fun c2 => ?_, fun c2 => ?_⟩
  intro e; (try simp only [e, Ins.eta, Prog.eta, insAt_mk, Mem.eta, Mach.eta, -eq_self]); clear e
  · rfl
  refine ⟨fun c3 => ?_, fun c3 => ?_⟩
  refine ⟨fun c4 => ?_, fun c4 => ?_⟩
  refine ⟨fun c5 => ?_, fun c5 => ?_⟩
  intro e; (try simp only [e, Ins.eta, Prog.eta, insAt_mk, Mem.eta, Mach.eta, -eq_self]); clear e
  · rfl
  refine ⟨?_, ?_⟩
  · exact ⟨⟨hp.2.len, hcx.len⟩, han.len⟩
  intro e; have ⟨k0_i7, k0_i8, k0_l9, k0_l10, k0_i11, k0_i12⟩ := e; (try simp only [e, Ins.eta, Prog.eta, insAt_mk, Mem.eta, Mach.eta, -eq_self]); clear e
  refine ⟨fun c6 => ?_, fun c6 => ?_⟩
  refine ⟨fun c7 => ?_, fun c7 => ?_⟩
  intro e; (try simp only [e, Ins.eta, Prog.eta, insAt_mk, Mem.eta, Mach.eta, -eq_self]); clear e
  · rfl
  refine ⟨?_, ?_⟩
  · exact ⟨⟨hp.2.len, hcx.len⟩, han.len⟩
  intro e; have he := eqI c6; have hob := open_y (mrun_ok he).1; have eF : opI .add .i64 fu (mod1001 more) = fu + mod1001 more := wrI (by omega) (by omega); rw [eF] at c7; simp only [eF] at e; have hle : fu + mod1001 more ≤ 10000 := (by have := of_decide_eq_false c7; omega); have Q := more_law (an := an) hp.2.len he hM.1 hle; have ⟨k0_i13, k0_i14, k0_l15, k0_l16, k0_i17, k0_i18⟩ := e; (try simp only [e, Ins.eta, Prog.eta, insAt_mk, Mem.eta, Mach.eta, -eq_self]); clear e
  refine ⟨fun c8 => ?_, fun c8 => ?_⟩
  refine ⟨fun c9 => ?_, fun c9 => ?_⟩
  · exact absurd (of_decide_eq_true c9) (by have := Q.l0; omega)
  refine ⟨fun c10 => ?_, fun c10 => ?_⟩
  · exact absurd (of_decide_eq_true c10) (by have := Q.l1; omega)
  refine ⟨fun c11 => ?_, fun c11 => ?_⟩
  · exact absurd (of_decide_eq_true c11) (by have := Q.used; omega)
  intro e; (try simp only [e, Ins.eta, Prog.eta, insAt_mk, Mem.eta, Mach.eta, -eq_self]); clear e
  refine ⟨fun c12 => ?_, fun c12 => ?_⟩
  refine ⟨fun ds => ∃ n : Nat, ds = [.z (n : Int)] ∧ n ≤ (mrun p cx an fu).1.tr.length, fun ds => (mrun p cx an fu).1.tr.length - (dI ds 0).toNat, ⟨0, rfl, Nat.zero_le _⟩, ?_⟩
  intro ρ1 ha1 _ hi1
  obtain ⟨n, hds, hn⟩ := hi1
  simp only [List.cons.injEq, Dt.z.injEq, Dt.l.injEq, b2i_eq_iff, and_true] at hds
  have k1_i20 := hds
  have k1_i0 : ρ1.i 0 = _ := (ha1 0 (by decide)).1.symm.trans k0_i0
  have k1_l1 : ρ1.l 1 = _ := (ha1 1 (by decide)).2.2.symm.trans k0_l1
  have k1_l2 : ρ1.l 2 = _ := (ha1 2 (by decide)).2.2.symm.trans k0_l2
  have k1_l3 : ρ1.l 3 = _ := (ha1 3 (by decide)).2.2.symm.trans k0_l3
  have k1_l4 : ρ1.l 4 = _ := (ha1 4 (by decide)).2.2.symm.trans k0_l4
  have k1_i5 : ρ1.i 5 = _ := (ha1 5 (by decide)).1.symm.trans k0_i5
  have k1_i6 : ρ1.i 6 = _ := (ha1 6 (by decide)).1.symm.trans k0_i6
  have k1_i7 : ρ1.i 7 = _ := (ha1 7 (by decide)).1.symm.trans k0_i7
  have k1_i8 : ρ1.i 8 = _ := (ha1 8 (by decide)).1.symm.trans k0_i8
  have k1_l9 : ρ1.l 9 = _ := (ha1 9 (by decide)).2.2.symm.trans k0_l9
  have k1_l10 : ρ1.l 10 = _ := (ha1 10 (by decide)).2.2.symm.trans k0_l10
  have k1_i11 : ρ1.i 11 = _ := (ha1 11 (by decide)).1.symm.trans k0_i11
  have k1_i13 : ρ1.i 13 = _ := (ha1 13 (by decide)).1.symm.trans k0_i13
  have k1_i14 : ρ1.i 14 = _ := (ha1 14 (by decide)).1.symm.trans k0_i14
  have k1_l15 : ρ1.l 15 = _ := (ha1 15 (by decide)).2.2.symm.trans k0_l15
  have k1_l16 : ρ1.l 16 = _ := (ha1 16 (by decide)).2.2.symm.trans k0_l16
  have k1_i17 : ρ1.i 17 = _ := (ha1 17 (by decide)).1.symm.trans k0_i17
  simp only [k1_i0, k1_l1, k1_l2, k1_l3, k1_l4, k1_i5, k1_i6, k1_i7, k1_i8, k1_l9, k1_l10, k1_i11, k1_i13, k1_i14, k1_l15, k1_l16, k1_i17, k1_i20, insAt_mk, -eq_self]
  refine ⟨fun c13 => ?_, fun c13 => ?_⟩
  refine ⟨fun c14 => ?_, fun c14 => ?_⟩
  · exact absurd (of_decide_eq_true c14) (by omega)
  refine ⟨fun c15 => ?_, fun c15 => ?_⟩
  refine ⟨fun c16 => ?_, fun c16 => ?_⟩
  refine ⟨fun c17 => ?_, fun c17 => ?_⟩
  · have hn2 : n < (mrun p cx an fu).1.tr.length := Int.ofNat_lt.1 (of_decide_eq_true c13)
    have V := Q.ev n hn2
    exact absurd (of_decide_eq_true c17) (by omega)
  refine ⟨fun c18 => ?_, fun c18 => ?_⟩
  intro e; (try simp only [e, Ins.eta, Prog.eta, insAt_mk, Mem.eta, Mach.eta, -eq_self]); clear e
  refine ⟨fun c19 => ?_, fun c19 => ?_⟩
  · have hn2 : n < (mrun p cx an fu).1.tr.length := Int.ofNat_lt.1 (of_decide_eq_true c13)
    rw [addO hn2 (by have := Q.used; exact Nat.le_trans this han.len)]
    exact ⟨⟨n + 1, rfl, hn2⟩, by show (mrun p cx an fu).1.tr.length - (((n + 1 : Nat) : Int)).toNat < (mrun p cx an fu).1.tr.length - ((n : Int)).toNat; omega⟩
  · have hn2 : n < (mrun p cx an fu).1.tr.length := Int.ofNat_lt.1 (of_decide_eq_true c13)
    have V := Q.ev n hn2
    exact absurd V.2.2.2 (neI c19)
  · have hn2 : n < (mrun p cx an fu).1.tr.length := Int.ofNat_lt.1 (of_decide_eq_true c13)
    have V := Q.ev n hn2
    exact absurd (of_decide_eq_false c18) (by omega)
  · have hn2 : n < (mrun p cx an fu).1.tr.length := Int.ofNat_lt.1 (of_decide_eq_true c13)
    have V := Q.ev n hn2
    exact absurd V.1 (neI c16)
  · exact absurd (of_decide_eq_false c15) (by have := of_decide_eq_true c13; have := Q.used; omega)
  refine ⟨fun c20 => ?_, fun c20 => ?_⟩
  refine ⟨fun c21 => ?_, fun c21 => ?_⟩
  refine ⟨fun c22 => ?_, fun c22 => ?_⟩
  · exact absurd (of_decide_eq_true c22) (by have := (Q.k0 (eqI c20)).2; omega)
  intro e; (try simp only [e, Ins.eta, Prog.eta, insAt_mk, Mem.eta, Mach.eta, -eq_self]); clear e
  · rfl
  · exact absurd (Q.k0 (eqI c20)).1 (neI c21)
  intro e; (try simp only [e, Ins.eta, Prog.eta, insAt_mk, Mem.eta, Mach.eta, -eq_self]); clear e
  refine ⟨fun c23 => ?_, fun c23 => ?_⟩
  refine ⟨fun c24 => ?_, fun c24 => ?_⟩
  refine ⟨fun c25 => ?_, fun c25 => ?_⟩
  refine ⟨fun c26 => ?_, fun c26 => ?_⟩
  intro e; (try simp only [e, Ins.eta, Prog.eta, insAt_mk, Mem.eta, Mach.eta, -eq_self]); clear e
  · rfl
  · exact absurd (congrArg (fun z : Nat => (z : Int)) (Q.k2 (eqI c25))) (neI c26)
  refine ⟨fun c27 => ?_, fun c27 => ?_⟩
  refine ⟨fun c28 => ?_, fun c28 => ?_⟩
  refine ⟨?_, ?_⟩
  · exact ⟨⟨hp.2.len, hcx.len⟩, by simp only [List.length_append, List.length_take, List.length_nil]; have := of_decide_eq_false c2; have := of_decide_eq_false c5; exact Nat.le_trans (by omega : _ ≤ 800) (by decide)⟩
  intro e; have e9 := Q.oth (neI c25) ot; simp only [Int.toNat_natCast, List.nil_append, e9] at e; (try simp only [e, Ins.eta, Prog.eta, insAt_mk, Mem.eta, Mach.eta, -eq_self]); clear e
  refine ⟨fun c29 => ?_, fun c29 => ?_⟩
  intro e; (try simp only [e, Ins.eta, Prog.eta, insAt_mk, Mem.eta, Mach.eta, -eq_self]); clear e
  refine ⟨fun c30 => ?_, fun c30 => ?_⟩
  intro e; (try simp only [e, Ins.eta, Prog.eta, insAt_mk, Mem.eta, Mach.eta, -eq_self]); clear e
  · rfl
  · exact Bool.noConfusion ((esame_refl (mrun p cx an fu).1).symm.trans c30)
  · exact absurd rfl (neI c29)
  · exact absurd (of_decide_eq_false c28) (by have := of_decide_eq_false c5; omega)
  · exact absurd (of_decide_eq_false c27) (by simp only [List.length_take]; have := of_decide_eq_false c2; omega)
  · have h9 := congrArg Out.left (Q.k1 (neI c20))
    exact absurd (h9.trans (show (mrun p cx an fu).1.left + mod1001 more = opI .add .i64 (mrun p cx an fu).1.left (mod1001 more) from (wrI (by have := Q.l0; omega) (by have := Q.l1; omega)).symm)) (neI c24)
  · have h9 := Q.k1 (neI c20)
    exact Bool.noConfusion ((elike_left h9).symm.trans c23)
  · exact Bool.noConfusion ((ebegins_of Q.beg).symm.trans c12)
  · exact absurd Q.err (neI c8)
  intro e; (try simp only [e, Ins.eta, Prog.eta, insAt_mk, Mem.eta, Mach.eta, -eq_self]); clear e
  · rfl
  intro e; (try simp only [e, Ins.eta, Prog.eta, insAt_mk, Mem.eta, Mach.eta, -eq_self]); clear e
  · rfl
  refine ⟨fun c31 => ?_, fun c31 => ?_⟩
  intro e; (try simp only [e, Ins.eta, Prog.eta, insAt_mk, Mem.eta, Mach.eta, -eq_self]); clear e
  · rfl
  refine ⟨?_, ?_⟩
  · exact ⟨⟨hp.2.len, hcx.len⟩, han.len⟩
  intro e; have ⟨k0_i7, k0_i8, k0_l9, k0_l10, k0_i11, k0_i12⟩ := e; (try simp only [e, Ins.eta, Prog.eta, insAt_mk, Mem.eta, Mach.eta, -eq_self]); clear e
  refine ⟨fun c32 => ?_, fun c32 => ?_⟩
  refine ⟨fun c33 => ?_, fun c33 => ?_⟩
  intro e; (try simp only [e, Ins.eta, Prog.eta, insAt_mk, Mem.eta, Mach.eta, -eq_self]); clear e
  · rfl
  refine ⟨?_, ?_⟩
  · exact ⟨⟨hp.2.len, hcx.len⟩, han.len⟩
  intro e; have he := eqI c32; have hob := open_y (mrun_ok he).1; have eF : opI .add .i64 fu (mod1001 more) = fu + mod1001 more := wrI (by omega) (by omega); rw [eF] at c33; simp only [eF] at e; have hle : fu + mod1001 more ≤ 10000 := (by have := of_decide_eq_false c33; omega); have Q := more_law (an := an) hp.2.len he hM.1 hle; have ⟨k0_i13, k0_i14, k0_l15, k0_l16, k0_i17, k0_i18⟩ := e; (try simp only [e, Ins.eta, Prog.eta, insAt_mk, Mem.eta, Mach.eta, -eq_self]); clear e
  refine ⟨fun c34 => ?_, fun c34 => ?_⟩
  refine ⟨fun c35 => ?_, fun c35 => ?_⟩
  · exact absurd (of_decide_eq_true c35) (by have := Q.l0; omega)
  refine ⟨fun c36 => ?_, fun c36 => ?_⟩
  · exact absurd (of_decide_eq_true c36) (by have := Q.l1; omega)
  refine ⟨fun c37 => ?_, fun c37 => ?_⟩
  · exact absurd (of_decide_eq_true c37) (by have := Q.used; omega)
  intro e; (try simp only [e, Ins.eta, Prog.eta, insAt_mk, Mem.eta, Mach.eta, -eq_self]); clear e
  refine ⟨fun c38 => ?_, fun c38 => ?_⟩
  refine ⟨fun ds => ∃ n : Nat, ds = [.z (n : Int)] ∧ n ≤ (mrun p cx an fu).1.tr.length, fun ds => (mrun p cx an fu).1.tr.length - (dI ds 0).toNat, ⟨0, rfl, Nat.zero_le _⟩, ?_⟩
  intro ρ1 ha1 _ hi1
  obtain ⟨n, hds, hn⟩ := hi1
  simp only [List.cons.injEq, Dt.z.injEq, Dt.l.injEq, b2i_eq_iff, and_true] at hds
  have k1_i20 := hds
  have k1_i0 : ρ1.i 0 = _ := (ha1 0 (by decide)).1.symm.trans k0_i0
  have k1_l1 : ρ1.l 1 = _ := (ha1 1 (by decide)).2.2.symm.trans k0_l1
  have k1_l2 : ρ1.l 2 = _ := (ha1 2 (by decide)).2.2.symm.trans k0_l2
  have k1_l3 : ρ1.l 3 = _ := (ha1 3 (by decide)).2.2.symm.trans k0_l3
  have k1_l4 : ρ1.l 4 = _ := (ha1 4 (by decide)).2.2.symm.trans k0_l4
  have k1_i5 : ρ1.i 5 = _ := (ha1 5 (by decide)).1.symm.trans k0_i5
  have k1_i6 : ρ1.i 6 = _ := (ha1 6 (by decide)).1.symm.trans k0_i6
  have k1_i7 : ρ1.i 7 = _ := (ha1 7 (by decide)).1.symm.trans k0_i7
  have k1_i8 : ρ1.i 8 = _ := (ha1 8 (by decide)).1.symm.trans k0_i8
  have k1_l9 : ρ1.l 9 = _ := (ha1 9 (by decide)).2.2.symm.trans k0_l9
  have k1_l10 : ρ1.l 10 = _ := (ha1 10 (by decide)).2.2.symm.trans k0_l10
  have k1_i11 : ρ1.i 11 = _ := (ha1 11 (by decide)).1.symm.trans k0_i11
  have k1_i13 : ρ1.i 13 = _ := (ha1 13 (by decide)).1.symm.trans k0_i13
  have k1_i14 : ρ1.i 14 = _ := (ha1 14 (by decide)).1.symm.trans k0_i14
  have k1_l15 : ρ1.l 15 = _ := (ha1 15 (by decide)).2.2.symm.trans k0_l15
  have k1_l16 : ρ1.l 16 = _ := (ha1 16 (by decide)).2.2.symm.trans k0_l16
  have k1_i17 : ρ1.i 17 = _ := (ha1 17 (by decide)).1.symm.trans k0_i17
  simp only [k1_i0, k1_l1, k1_l2, k1_l3, k1_l4, k1_i5, k1_i6, k1_i7, k1_i8, k1_l9, k1_l10, k1_i11, k1_i13, k1_i14, k1_l15, k1_l16, k1_i17, k1_i20, insAt_mk, -eq_self]
  refine ⟨fun c39 => ?_, fun c39 => ?_⟩
  refine ⟨fun c40 => ?_, fun c40 => ?_⟩
  · exact absurd (of_decide_eq_true c40) (by omega)
  refine ⟨fun c41 => ?_, fun c41 => ?_⟩
  refine ⟨fun c42 => ?_, fun c42 => ?_⟩
  refine ⟨fun c43 => ?_, fun c43 => ?_⟩
  · have hn2 : n < (mrun p cx an fu).1.tr.length := Int.ofNat_lt.1 (of_decide_eq_true c39)
    have V := Q.ev n hn2
    exact absurd (of_decide_eq_true c43) (by omega)
  refine ⟨fun c44 => ?_, fun c44 => ?_⟩
  intro e; (try simp only [e, Ins.eta, Prog.eta, insAt_mk, Mem.eta, Mach.eta, -eq_self]); clear e
  refine ⟨fun c45 => ?_, fun c45 => ?_⟩
  · have hn2 : n < (mrun p cx an fu).1.tr.length := Int.ofNat_lt.1 (of_decide_eq_true c39)
    rw [addO hn2 (by have := Q.used; exact Nat.le_trans this han.len)]
    exact ⟨⟨n + 1, rfl, hn2⟩, by show (mrun p cx an fu).1.tr.length - (((n + 1 : Nat) : Int)).toNat < (mrun p cx an fu).1.tr.length - ((n : Int)).toNat; omega⟩
  · have hn2 : n < (mrun p cx an fu).1.tr.length := Int.ofNat_lt.1 (of_decide_eq_true c39)
    have V := Q.ev n hn2
    exact absurd V.2.2.2 (neI c45)
  · have hn2 : n < (mrun p cx an fu).1.tr.length := Int.ofNat_lt.1 (of_decide_eq_true c39)
    have V := Q.ev n hn2
    exact absurd (of_decide_eq_false c44) (by omega)
  · have hn2 : n < (mrun p cx an fu).1.tr.length := Int.ofNat_lt.1 (of_decide_eq_true c39)
    have V := Q.ev n hn2
    exact absurd V.1 (neI c42)
  · exact absurd (of_decide_eq_false c41) (by have := of_decide_eq_true c39; have := Q.used; omega)
  refine ⟨fun c46 => ?_, fun c46 => ?_⟩
  refine ⟨fun c47 => ?_, fun c47 => ?_⟩
  refine ⟨fun c48 => ?_, fun c48 => ?_⟩
  · exact absurd (of_decide_eq_true c48) (by have := (Q.k0 (eqI c46)).2; omega)
  intro e; (try simp only [e, Ins.eta, Prog.eta, insAt_mk, Mem.eta, Mach.eta, -eq_self]); clear e
  · rfl
  · exact absurd (Q.k0 (eqI c46)).1 (neI c47)
  intro e; (try simp only [e, Ins.eta, Prog.eta, insAt_mk, Mem.eta, Mach.eta, -eq_self]); clear e
  refine ⟨fun c49 => ?_, fun c49 => ?_⟩
  refine ⟨fun c50 => ?_, fun c50 => ?_⟩
  refine ⟨fun c51 => ?_, fun c51 => ?_⟩
  refine ⟨fun c52 => ?_, fun c52 => ?_⟩
  intro e; (try simp only [e, Ins.eta, Prog.eta, insAt_mk, Mem.eta, Mach.eta, -eq_self]); clear e
  · rfl
  · exact absurd (congrArg (fun z : Nat => (z : Int)) (Q.k2 (eqI c51))) (neI c52)
  refine ⟨fun c53 => ?_, fun c53 => ?_⟩
  refine ⟨fun c54 => ?_, fun c54 => ?_⟩
  refine ⟨?_, ?_⟩
  · exact ⟨⟨hp.2.len, hcx.len⟩, by simp only [List.length_append, List.length_take, List.length_nil]; have := of_decide_eq_false c2; have := of_decide_eq_false c31; exact Nat.le_trans (by omega : _ ≤ 800) (by decide)⟩
  intro e; have e9 := Q.oth (neI c51) ot; simp only [Int.toNat_natCast, List.nil_append, e9] at e; (try simp only [e, Ins.eta, Prog.eta, insAt_mk, Mem.eta, Mach.eta, -eq_self]); clear e
  refine ⟨fun c55 => ?_, fun c55 => ?_⟩
  intro e; (try simp only [e, Ins.eta, Prog.eta, insAt_mk, Mem.eta, Mach.eta, -eq_self]); clear e
  refine ⟨fun c56 => ?_, fun c56 => ?_⟩
  intro e; (try simp only [e, Ins.eta, Prog.eta, insAt_mk, Mem.eta, Mach.eta, -eq_self]); clear e
  · rfl
  · exact Bool.noConfusion ((esame_refl (mrun p cx an fu).1).symm.trans c56)
  · exact absurd rfl (neI c55)
  · exact absurd (of_decide_eq_false c54) (by have := of_decide_eq_false c31; omega)
  · exact absurd (of_decide_eq_false c53) (by simp only [List.length_take]; have := of_decide_eq_false c2; omega)
  · have h9 := congrArg Out.left (Q.k1 (neI c46))
    exact absurd (h9.trans (show (mrun p cx an fu).1.left + mod1001 more = opI .add .i64 (mrun p cx an fu).1.left (mod1001 more) from (wrI (by have := Q.l0; omega) (by have := Q.l1; omega)).symm)) (neI c50)
  · have h9 := Q.k1 (neI c46)
    exact Bool.noConfusion ((elike_left h9).symm.trans c49)
  · exact Bool.noConfusion ((ebegins_of Q.beg).symm.trans c38)
  · exact absurd Q.err (neI c34)
  intro e; (try simp only [e, Ins.eta, Prog.eta, insAt_mk, Mem.eta, Mach.eta, -eq_self]); clear e
  · rfl
theorem sC_lmore (xs : List Dt) (vals : List Value) (w : World) (hw : shRel w [.agg kProg, .one (.sl [some .u8] 5), .one (.sl [some .u64] 30), .one (.sl [some .u64] 30), .one (.int .i64), .one (.int .i64)] xs vals) : Calls Try.prog 3 vals.toArray w fun e w' => ∃ v, e = .returned v ∧ RetOk [.one .bool] false w w' (sF_lmore xs) v :=
  (fun_calls (by kernel_rfl) tysok_MoH (smc (sK_mrun rfl rfl) (smc (sK_lwakes rfl) (smc (sK_esame rfl) (smc (sK_ebegins rfl) (smc (sK_elike rfl) (smc (sK_jargs rfl) sm0)))))) Try.func3 (fnc Try.func9 (fnc Try.func13 fn0)) sR_lmore (pre := fun _ => True) (fun x0 gx0 x1 gx1 x2 gx2 x3 gx3 x4 gx4 x5 gx5 x6 gx6 hp ρ g => sX_lmore ⟨x0, x1⟩ ⟨gx0, gx1⟩ x2 gx2 x3 gx3 x4 gx4 x5 gx5 x6 gx6 ρ g) xs vals w hw trivial).2
set_option maxRecDepth 100000 in
set_option maxHeartbeats 8000000 in
theorem law_ModelMore {H : Type} {enc : TypeId × Value → H} {W : World} {r : Reach} {b0 : Nat} (v0 : Value) (k0 : Value.okWide Try.prog W r b0 24 v0) (d0 : DataW H) (p0 : List MemPlace) (h0 : DataW.Trod enc Try.prog W 0 (fun _ => true) true 24 v0 d0 p0) (_ : ∀ x ∈ p0, x.block < W.heap.size) (v1 : Value) (k1 : Value.okWide Try.prog W r b0 25 v1) (d1 : DataW H) (p1 : List MemPlace) (h1 : DataW.Trod enc Try.prog W 0 (fun _ => true) true 25 v1 d1 p1) (_ : ∀ x ∈ p1, x.block < W.heap.size) (v2 : Value) (k2 : Value.okWide Try.prog W r b0 26 v2) (d2 : DataW H) (p2 : List MemPlace) (h2 : DataW.Trod enc Try.prog W 0 (fun _ => true) true 26 v2 d2 p2) (_ : ∀ x ∈ p2, x.block < W.heap.size) (v3 : Value) (k3 : Value.okWide Try.prog W r b0 26 v3) (d3 : DataW H) (p3 : List MemPlace) (h3 : DataW.Trod enc Try.prog W 0 (fun _ => true) true 26 v3 d3 p3) (_ : ∀ x ∈ p3, x.block < W.heap.size) (a4 : Int) (w4 : (Lit.int .i64 a4).wf = true) (a5 : Int) (w5 : (Lit.int .i64 a5).wf = true) :
    Calls Try.prog 3 #[v0, v1, v2, v3, .int .i64 a4, .int .i64 a5] W fun e W' => e = .returned (.bool true) ∧ Below W.heap.size W W' := by
  obtain ⟨a0, q0, s0, rfl, w0, n0, m0, o0, l0⟩ := Prog.of_arg k0 h0
  obtain ⟨q1, s1, rfl, n1, m1, o1, l1⟩ := sl_of_arg rwU8 (by decide) Try.underlying25 k1 h1
  obtain ⟨q2, s2, rfl, n2, m2, o2, l2⟩ := sl_of_arg rwU64 (by decide) Try.underlying26 k2 h2
  obtain ⟨q3, s3, rfl, n3, m3, o3, l3⟩ := sl_of_arg rwU64 (by decide) Try.underlying26 k3 h3
  refine (sC_lmore (.z a0 :: ( .l q0 :: ( .l q1 :: ( .l q2 :: ( .l q3 :: ( .z a4 :: ( .z a5 :: ([])))))))) _ W ⟨_, _, _, rfl, ⟨_, _, _, rfl, ⟨_, rfl, rfl, w0⟩, ⟨_, _, _, rfl, ⟨_, _, rfl, rfl, n0, m0, o0, l0⟩, ⟨rfl, rfl⟩⟩⟩, ⟨_, _, _, rfl, ⟨_, _, rfl, rfl, n1, m1, o1, l1⟩, ⟨_, _, _, rfl, ⟨_, _, rfl, rfl, n2, m2, o2, l2⟩, ⟨_, _, _, rfl, ⟨_, _, rfl, rfl, n3, m3, o3, l3⟩, ⟨_, _, _, rfl, ⟨_, rfl, rfl, (inK_of_wf w4)⟩, ⟨_, _, _, rfl, ⟨_, rfl, rfl, (inK_of_wf w5)⟩, ⟨rfl, rfl⟩⟩⟩⟩⟩⟩⟩).mono fun e W' ⟨v, he, hr⟩ => ?_
  have hv : v = .bool true := RetOk.says hr
  rw [he, hv]
  exact ⟨rfl, hr.ext⟩
end Go.Proofs.Ytghiofgomcihcaa

