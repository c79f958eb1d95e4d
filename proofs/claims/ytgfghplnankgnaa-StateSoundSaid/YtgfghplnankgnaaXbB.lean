/- Contracts of Narrow and others of package bounds, by the symbolic run. -/
import Derived.Test.YtgfghplnankgnaaXbA
import Derived.Test.YtgfghplnankgnaaProg
import Derived.Laws.Externs
set_option linter.unusedVariables false
set_option linter.unusedSimpArgs false
namespace Go.Proofs.Ytgfghplnankgnaa
open Go.RowKit Go.ChangeShapes Go.WideShapes

theorem bnar_if (r : Rg) : (if bnok r = true then bnar r else ball) = bnar r := by
  unfold bnar
  split <;> simp_all
theorem Rg.ext_iff {a b : Rg} : a = b ↔ a.ul = b.ul ∧ a.uh = b.uh ∧ a.sl = b.sl ∧ a.sh = b.sh := by
  cases a; cases b; simp
theorem inK_u64 {x : Int} (h : inK .u64 x = true) : 0 ≤ x ∧ x ≤ 18446744073709551615 := by
  rw [inK_iff] at h; simpa [IntKind.min, IntKind.max, IntKind.signed, IntKind.bits] using h
theorem inK_i64 {x : Int} (h : inK .i64 x = true) : -9223372036854775808 ≤ x ∧ x ≤ 9223372036854775807 := by
  rw [inK_iff] at h; simpa [IntKind.min, IntKind.max, IntKind.signed, IntKind.bits] using h
theorem Rg.wf_of {a : Rg} (h : a.ok) : a.wf := ⟨inK_u64 h.1, inK_u64 h.2.1, inK_i64 h.2.2.1, inK_i64 h.2.2.2⟩
theorem shr63 {x : Int} (h : 0 ≤ x ∧ x ≤ 18446744073709551615) : opI .shr .u64 x 63 = if hib x = true then 1 else 0 := by
  show x.fdiv (2 ^ 63) = _
  rw [Int.fdiv_eq_ediv_of_nonneg _ (by omega)]
  unfold hib
  split
  · rename_i hh; have := of_decide_eq_true hh; omega
  · rename_i hh; have : ¬ 9223372036854775808 ≤ x := fun e => hh (decide_eq_true e); omega
theorem hib_c {r : Rg} (w : r.wf) : (opI .shr .u64 r.ul 63 == opI .shr .u64 r.uh 63) = decide (hib r.ul = hib r.uh) := by
  rw [shr63 w.1, shr63 w.2.1]
  cases hib r.ul <;> cases hib r.uh <;> rfl
theorem sgn_t {r : Rg} (w : r.wf) (h : (opI .shr .u64 r.ul 63 == opI .shr .u64 r.uh 63) = true) : bsgn r = ⟨r.ul, r.uh, max r.sl (IntKind.i64.wrap r.ul), min r.sh (IntKind.i64.wrap r.uh)⟩ := by
  rw [hib_c w, decide_eq_true_eq] at h
  unfold bsgn
  rw [if_pos h, s64_wrap, s64_wrap]
theorem sgn_f {r : Rg} (w : r.wf) (h : (opI .shr .u64 r.ul 63 == opI .shr .u64 r.uh 63) = false) : bsgn r = ⟨r.ul, r.uh, r.sl, r.sh⟩ := by
  rw [hib_c w, decide_eq_false_iff_not] at h
  unfold bsgn
  rw [if_neg h]
theorem uns_t {r : Rg} (h : (decide (r.sl < 0) == decide (r.sh < 0)) = true) : buns r = ⟨max r.ul (IntKind.u64.wrap r.sl), min r.uh (IntKind.u64.wrap r.sh), r.sl, r.sh⟩ := by
  unfold buns
  rw [if_pos (eq_of_beq h)]
theorem uns_f {r : Rg} (h : (decide (r.sl < 0) == decide (r.sh < 0)) = false) : buns r = ⟨r.ul, r.uh, r.sl, r.sh⟩ := by
  unfold buns
  rw [if_neg (fun e => by rw [e] at h; simp at h)]
def z_Rg : List C := [.int .u64 (.lit 0), .int .u64 (.lit 0), .int .i64 (.lit 0), .int .i64 (.lit 0)]
theorem grd_Rg : Try.prog.eqGuardType Try.prog.depth 25 = false := by kernel_rfl
theorem cells25_Rg : Try.prog.cellsOf 25 = 4 := by kernel_rfl
theorem cells23_Rg : Try.prog.cellsOf 23 = 1 := by kernel_rfl
theorem cells2_Rg : Try.prog.cellsOf 2 = 1 := by kernel_rfl
set_option maxRecDepth 100000 in
theorem kl_Rg (vs : List Value) (hv : kindsV vs z_Rg) : Try.prog.keyLits 6 25 vs = some (litsOf vs) := by
  obtain ⟨x0, _, rfl, g0, hv⟩ := kindsV_int hv
  obtain ⟨x1, _, rfl, g1, hv⟩ := kindsV_int hv
  obtain ⟨x2, _, rfl, g2, hv⟩ := kindsV_int hv
  obtain ⟨x3, _, rfl, g3, hv⟩ := kindsV_int hv
  obtain rfl := kindsV_nil hv
  simp [Program.keyLits, Try.underlying25, Try.underlying23, Try.underlying2, cells25_Rg, cells23_Rg, cells2_Rg, inK_wf, litsOf, g0, g1, g2, g3]
theorem fm_Rg (vs : List Value) (hv : kindsV vs z_Rg) : (Value.agg vs.toArray).formed Try.prog 25 = true := by
  obtain ⟨x0, _, rfl, g0, hv⟩ := kindsV_int hv
  obtain ⟨x1, _, rfl, g1, hv⟩ := kindsV_int hv
  obtain ⟨x2, _, rfl, g2, hv⟩ := kindsV_int hv
  obtain ⟨x3, _, rfl, g3, hv⟩ := kindsV_int hv
  obtain rfl := kindsV_nil hv
  kernel_rfl
theorem eq_Rg (vs us : List Value) (hv : kindsV vs z_Rg) (hu : kindsV us z_Rg) (w : World) : (Op.equal 25 (.agg vs.toArray) (.agg us.toArray)).run Try.prog w = .ok (eqVs vs us) w :=
  eq_of_keys (by kernel_rfl) fm_Rg 6 kl_Rg vs us hv hu w
def tys_XbB : List (Nat × TI) := [(2, ⟨false, 1, [.int .i64 (.lit 0)], [], none, some .i64, false, false, none, 8, false, none, false⟩),
 (3, ⟨false, 1, [.int .i64 (.lit 0)], [], none, some .i64, false, false, none, 8, false, none, false⟩),
 (4, ⟨false, 1, [.bool (.tt false)], [], none, none, false, true, none, 1, false, none, false⟩),
 (23, ⟨false, 1, [.int .u64 (.lit 0)], [], none, some .u64, false, false, none, 8, false, none, false⟩),
 (25, ⟨true, 4, [.int .u64 (.lit 0), .int .u64 (.lit 0), .int .i64 (.lit 0), .int .i64 (.lit 0)], [(0, 23), (1, 23), (2, 2), (3, 2)], none, none, true, false, none, 32, false, none, false⟩),
 (88, ⟨true, 2, [.int .u64 (.lit 0), .int .u64 (.lit 0)], [(0, 23), (1, 23)], none, none, false, false, none, 16, false, none, false⟩),
 (92, ⟨true, 2, [.int .i64 (.lit 0), .int .i64 (.lit 0)], [(0, 2), (1, 2)], none, none, false, false, none, 16, false, none, false⟩)]
set_option maxRecDepth 100000 in
theorem tysck_XbB : (tys_XbB.all fun p => ckTI Try.prog p.1 p.2) = true := by kernel_rfl
theorem tyseq_XbB : (tys_XbB.all fun p => !p.2.eqok || ((Nat.beq p.1 25 && kindsC p.2.zero z_Rg))) = true := by kernel_rfl
theorem tyskn_XbB : (tys_XbB.all fun p => !p.2.keyok) = true := by kernel_rfl
theorem tysok_XbB : ∀ t i, (t, i) ∈ tys_XbB → TIok Try.prog t i := by
  intro t i h
  refine TIok_of (all_at (f := ckTI Try.prog) tysck_XbB h) (fun he => ?_) (fun he => ?_) (fun he => ?_)
  · have h1 := List.all_eq_true.1 tyseq_XbB (t, i) h
    simp only [he, Bool.not_true, Bool.false_or, Bool.or_eq_true, Bool.and_eq_true] at h1
    have hs := h1.2
    obtain rfl := Nat.eq_of_beq_eq_true h1.1
    exact fun vs us hv hu => eq_Rg vs us (kindsV_of hs hv) (kindsV_of hs hu)
  · have h1 := List.all_eq_true.1 tyseq_XbB (t, i) h
    simp only [he, Bool.not_true, Bool.false_or, Bool.or_eq_true, Bool.and_eq_true] at h1
    have hs := h1.2
    obtain rfl := Nat.eq_of_beq_eq_true h1.1
    exact grd_Rg
  · have h1 := List.all_eq_true.1 tyskn_XbB (t, i) h
    simp [he] at h1
def sM_nar (key : Nat) : Sm := ⟨65, key, [.agg kRg], [.agg kRg, .one .bool], true⟩
def sV_nar (a : Rg) : List Dt := [.z ((bnar a).ul), .z ((bnar a).uh), .z ((bnar a).sl), .z ((bnar a).sh), .z (b2i (bnok a))]
def sF_nar : List Dt → List Dt
  | [.z x0, .z x1, .z x2, .z x3] => sV_nar ⟨x0, x1, x2, x3⟩
  | _ => []
set_option maxRecDepth 100000 in
def sT_nar : Tr :=
(.call 0 ([.bool]) (.vs 0 4 .nil) 4
(.br (.bvar 4)
(.call 2 (kPu) (.vs 0 4 .nil) 5
(.call 3 (kPi) (.vs 0 4 .nil) 7
(.br (.eq (.bin .shr .u64 (.var 5) (.lit 63)) (.bin .shr .u64 (.var 6) (.lit 63)))
(.call 5 (kPi) (.vs 7 2 (.cons (.conv .i64 (.var 5)) (.cons (.conv .i64 (.var 6)) .nil))) 9
(.call 6 (kRg) (.vs 5 2 (.vs 9 2 .nil)) 11
(.call 0 ([.bool]) (.vs 11 4 .nil) 15
(.br (.bvar 15)
(.call 2 (kPu) (.vs 11 4 .nil) 16
(.call 3 (kPi) (.vs 11 4 .nil) 18
(.br (.beq (.lt (.var 18) (.lit 0)) (.lt (.var 19) (.lit 0)))
(.call 4 (kPu) (.vs 16 2 (.cons (.conv .u64 (.var 18)) (.cons (.conv .u64 (.var 19)) .nil))) 20
(.call 6 (kRg) (.vs 20 2 (.vs 18 2 .nil)) 22
(.call 0 ([.bool]) (.vs 22 4 .nil) 26
(.br (.bvar 26)
(.call 2 (kPu) (.vs 22 4 .nil) 27
(.call 3 (kPi) (.vs 22 4 .nil) 29
(.br (.eq (.bin .shr .u64 (.var 27) (.lit 63)) (.bin .shr .u64 (.var 28) (.lit 63)))
(.call 5 (kPi) (.vs 29 2 (.cons (.conv .i64 (.var 27)) (.cons (.conv .i64 (.var 28)) .nil))) 31
(.call 6 (kRg) (.vs 27 2 (.vs 31 2 .nil)) 33
(.call 0 ([.bool]) (.vs 33 4 .nil) 37
(.br (.bvar 37)
(.call 2 (kPu) (.vs 33 4 .nil) 38
(.call 3 (kPi) (.vs 33 4 .nil) 40
(.leaf (.vs 33 4 (.consb (.tt true) .nil)))))
(.call 1 (kRg) .nil 38
(.leaf (.vs 38 4 (.consb (.tt false) .nil))))))))
(.call 6 (kRg) (.vs 27 4 .nil) 31
(.call 0 ([.bool]) (.vs 31 4 .nil) 35
(.br (.bvar 35)
(.call 2 (kPu) (.vs 31 4 .nil) 36
(.call 3 (kPi) (.vs 31 4 .nil) 38
(.leaf (.vs 31 4 (.consb (.tt true) .nil)))))
(.call 1 (kRg) .nil 36
(.leaf (.vs 36 4 (.consb (.tt false) .nil))))))))))
(.call 1 (kRg) .nil 27
(.leaf (.vs 27 4 (.consb (.tt false) .nil))))))))
(.call 6 (kRg) (.vs 16 4 .nil) 20
(.call 0 ([.bool]) (.vs 20 4 .nil) 24
(.br (.bvar 24)
(.call 2 (kPu) (.vs 20 4 .nil) 25
(.call 3 (kPi) (.vs 20 4 .nil) 27
(.br (.eq (.bin .shr .u64 (.var 25) (.lit 63)) (.bin .shr .u64 (.var 26) (.lit 63)))
(.call 5 (kPi) (.vs 27 2 (.cons (.conv .i64 (.var 25)) (.cons (.conv .i64 (.var 26)) .nil))) 29
(.call 6 (kRg) (.vs 25 2 (.vs 29 2 .nil)) 31
(.call 0 ([.bool]) (.vs 31 4 .nil) 35
(.br (.bvar 35)
(.call 2 (kPu) (.vs 31 4 .nil) 36
(.call 3 (kPi) (.vs 31 4 .nil) 38
(.leaf (.vs 31 4 (.consb (.tt true) .nil)))))
(.call 1 (kRg) .nil 36
(.leaf (.vs 36 4 (.consb (.tt false) .nil))))))))
(.call 6 (kRg) (.vs 25 4 .nil) 29
(.call 0 ([.bool]) (.vs 29 4 .nil) 33
(.br (.bvar 33)
(.call 2 (kPu) (.vs 29 4 .nil) 34
(.call 3 (kPi) (.vs 29 4 .nil) 36
(.leaf (.vs 29 4 (.consb (.tt true) .nil)))))
(.call 1 (kRg) .nil 34
(.leaf (.vs 34 4 (.consb (.tt false) .nil))))))))))
(.call 1 (kRg) .nil 25
(.leaf (.vs 25 4 (.consb (.tt false) .nil))))))))))
(.call 1 (kRg) .nil 16
(.leaf (.vs 16 4 (.consb (.tt false) .nil))))))))
(.call 6 (kRg) (.vs 5 4 .nil) 9
(.call 0 ([.bool]) (.vs 9 4 .nil) 13
(.br (.bvar 13)
(.call 2 (kPu) (.vs 9 4 .nil) 14
(.call 3 (kPi) (.vs 9 4 .nil) 16
(.br (.beq (.lt (.var 16) (.lit 0)) (.lt (.var 17) (.lit 0)))
(.call 4 (kPu) (.vs 14 2 (.cons (.conv .u64 (.var 16)) (.cons (.conv .u64 (.var 17)) .nil))) 18
(.call 6 (kRg) (.vs 18 2 (.vs 16 2 .nil)) 20
(.call 0 ([.bool]) (.vs 20 4 .nil) 24
(.br (.bvar 24)
(.call 2 (kPu) (.vs 20 4 .nil) 25
(.call 3 (kPi) (.vs 20 4 .nil) 27
(.br (.eq (.bin .shr .u64 (.var 25) (.lit 63)) (.bin .shr .u64 (.var 26) (.lit 63)))
(.call 5 (kPi) (.vs 27 2 (.cons (.conv .i64 (.var 25)) (.cons (.conv .i64 (.var 26)) .nil))) 29
(.call 6 (kRg) (.vs 25 2 (.vs 29 2 .nil)) 31
(.call 0 ([.bool]) (.vs 31 4 .nil) 35
(.br (.bvar 35)
(.call 2 (kPu) (.vs 31 4 .nil) 36
(.call 3 (kPi) (.vs 31 4 .nil) 38
(.leaf (.vs 31 4 (.consb (.tt true) .nil)))))
(.call 1 (kRg) .nil 36
(.leaf (.vs 36 4 (.consb (.tt false) .nil))))))))
(.call 6 (kRg) (.vs 25 4 .nil) 29
(.call 0 ([.bool]) (.vs 29 4 .nil) 33
(.br (.bvar 33)
(.call 2 (kPu) (.vs 29 4 .nil) 34
(.call 3 (kPi) (.vs 29 4 .nil) 36
(.leaf (.vs 29 4 (.consb (.tt true) .nil)))))
(.call 1 (kRg) .nil 34
(.leaf (.vs 34 4 (.consb (.tt false) .nil))))))))))
(.call 1 (kRg) .nil 25
(.leaf (.vs 25 4 (.consb (.tt false) .nil))))))))
(.call 6 (kRg) (.vs 14 4 .nil) 18
(.call 0 ([.bool]) (.vs 18 4 .nil) 22
(.br (.bvar 22)
(.call 2 (kPu) (.vs 18 4 .nil) 23
(.call 3 (kPi) (.vs 18 4 .nil) 25
(.br (.eq (.bin .shr .u64 (.var 23) (.lit 63)) (.bin .shr .u64 (.var 24) (.lit 63)))
(.call 5 (kPi) (.vs 25 2 (.cons (.conv .i64 (.var 23)) (.cons (.conv .i64 (.var 24)) .nil))) 27
(.call 6 (kRg) (.vs 23 2 (.vs 27 2 .nil)) 29
(.call 0 ([.bool]) (.vs 29 4 .nil) 33
(.br (.bvar 33)
(.call 2 (kPu) (.vs 29 4 .nil) 34
(.call 3 (kPi) (.vs 29 4 .nil) 36
(.leaf (.vs 29 4 (.consb (.tt true) .nil)))))
(.call 1 (kRg) .nil 34
(.leaf (.vs 34 4 (.consb (.tt false) .nil))))))))
(.call 6 (kRg) (.vs 23 4 .nil) 27
(.call 0 ([.bool]) (.vs 27 4 .nil) 31
(.br (.bvar 31)
(.call 2 (kPu) (.vs 27 4 .nil) 32
(.call 3 (kPi) (.vs 27 4 .nil) 34
(.leaf (.vs 27 4 (.consb (.tt true) .nil)))))
(.call 1 (kRg) .nil 32
(.leaf (.vs 32 4 (.consb (.tt false) .nil))))))))))
(.call 1 (kRg) .nil 23
(.leaf (.vs 23 4 (.consb (.tt false) .nil))))))))))
(.call 1 (kRg) .nil 14
(.leaf (.vs 14 4 (.consb (.tt false) .nil))))))))))
(.call 1 (kRg) .nil 5
(.leaf (.vs 5 4 (.consb (.tt false) .nil))))))
def sP_nar : Spec := ⟨fun k => match k with | 0 => sF_may | 1 => sF_all | 2 => sF_uns | 3 => sF_sig | 4 => sF_umeet | 5 => sF_imeet | 6 => sF_of | _ => fun _ => [], fun k => match k with | _ => fun _ => True⟩
set_option maxRecDepth 100000 in
theorem sR_nar : treeIs tys_XbB [sM_may 0, sM_all 1, sM_uns 2, sM_sig 3, sM_umeet 4, sM_imeet 5, sM_of 6] [] [] [] 200 Try.f65 [.agg kRg] [.agg kRg, .one .bool] true [.int .u64, .int .u64, .int .i64, .int .i64] sT_nar := ⟨by kernel_rfl, by kernel_rfl, by kernel_rfl⟩
set_option maxRecDepth 100000 in
set_option maxHeartbeats 8000000 in
theorem sX_nar (a : Rg) (ha : Rg.ok a) (ρ : Env) (g : varsD ρ 0 [.int .u64, .int .u64, .int .i64, .int .i64] = [.z a.ul, .z a.uh, .z a.sl, .z a.sh]) : sT_nar.asks sP_nar (fun ρ e => e.D ρ = sF_nar [.z a.ul, .z a.uh, .z a.sl, .z a.sh]) ρ fun _ _ => False := by
  simp only [varsD, varD, List.cons.injEq, Dt.z.injEq, Dt.l.injEq, b2i_eq_iff, Nat.reduceAdd, and_true] at g
  simp only [sT_nar, sP_nar, kPi, kPu, kRg, sF_may, sF_all, sF_uns, sF_sig, sF_umeet, sF_imeet, sF_of, sV_may, sV_uns, sV_sig, sV_umeet, sV_imeet, sV_of, sF_nar, sV_nar, Tr.asks, upd_same, okDs, okD, eqs, E.I, E.B, E.L, E.R, E.D, E.vs, dI, dB, dL, varD, varsD, List.getElem?_cons_zero, List.getElem?_cons_succ, List.cons_append, List.nil_append, Nat.zero_add, Nat.add_zero, Nat.reduceAdd, and_true, true_and, b2i_one, -eq_self, Pi.eta, Pu.eta, Rg.eta, g]
  have wfg := Rg.wf_of ha
  intro e; (try simp only [e, Pi.eta, Pu.eta, Rg.eta, -eq_self]); clear e
  refine ⟨fun c0 => ?_, fun c0 => ?_⟩
  intro e; (try simp only [e, Pi.eta, Pu.eta, Rg.eta, -eq_self]); clear e
  intro e; (try simp only [e, Pi.eta, Pu.eta, Rg.eta, -eq_self]); clear e
  refine ⟨fun c1 => ?_, fun c1 => ?_⟩
  intro e; (try simp only [e, Pi.eta, Pu.eta, Rg.eta, -eq_self]); clear e
  intro e; (try simp only [e, Pi.eta, Pu.eta, Rg.eta, -eq_self]); clear e
  intro e; (try simp only [e, Pi.eta, Pu.eta, Rg.eta, -eq_self]); clear e
  refine ⟨fun c2 => ?_, fun c2 => ?_⟩
  intro e; (try simp only [e, Pi.eta, Pu.eta, Rg.eta, -eq_self]); clear e
  intro e; (try simp only [e, Pi.eta, Pu.eta, Rg.eta, -eq_self]); clear e
  refine ⟨fun c3 => ?_, fun c3 => ?_⟩
  intro e; (try simp only [e, Pi.eta, Pu.eta, Rg.eta, -eq_self]); clear e
  intro e; (try simp only [e, Pi.eta, Pu.eta, Rg.eta, -eq_self]); clear e
  intro e; (try simp only [e, Pi.eta, Pu.eta, Rg.eta, -eq_self]); clear e
  refine ⟨fun c4 => ?_, fun c4 => ?_⟩
  intro e; (try simp only [e, Pi.eta, Pu.eta, Rg.eta, -eq_self]); clear e
  intro e; (try simp only [e, Pi.eta, Pu.eta, Rg.eta, -eq_self]); clear e
  refine ⟨fun c5 => ?_, fun c5 => ?_⟩
  intro e; (try simp only [e, Pi.eta, Pu.eta, Rg.eta, -eq_self]); clear e
  intro e; (try simp only [e, Pi.eta, Pu.eta, Rg.eta, -eq_self]); clear e
  intro e; (try simp only [e, Pi.eta, Pu.eta, Rg.eta, -eq_self]); clear e
  refine ⟨fun c6 => ?_, fun c6 => ?_⟩
  intro e; (try simp only [e, Pi.eta, Pu.eta, Rg.eta, -eq_self]); clear e
  intro e; (try simp only [e, Pi.eta, Pu.eta, Rg.eta, -eq_self]); clear e
  · (have s1 := sgn_t (wfg) (by exact c1); have s2 := uns_t (r := bsgn a) (by rw [s1]; exact c3); have s3 := sgn_t (wf_buns (wf_bsgn wfg)) (by rw [s2, s1]; exact c5); have hok : bnok a = true := (by unfold bnok; (try rw [s3, s2, s1]); (try rw [c0]); (try rw [c2]); (try rw [c4]); (try rw [c6]); (try rfl)); have hnar : bnar a = bsgn (buns (bsgn a)) := (by unfold bnar; rw [hok]; rfl); rw [hok, hnar]; rw [s3, s2, s1]; (try rfl))
  intro e; (try simp only [e, Pi.eta, Pu.eta, Rg.eta, -eq_self]); clear e
  · (have s1 := sgn_t (wfg) (by exact c1); have s2 := uns_t (r := bsgn a) (by rw [s1]; exact c3); have s3 := sgn_t (wf_buns (wf_bsgn wfg)) (by rw [s2, s1]; exact c5); have hok : bnok a = false := (by unfold bnok; (try rw [s3, s2, s1]); (try rw [c0]); (try rw [c2]); (try rw [c4]); (try rw [c6]); (try rfl)); have hnar : bnar a = ball := (by unfold bnar; rw [hok]; rfl); rw [hok, hnar]; (try rfl))
  intro e; (try simp only [e, Pi.eta, Pu.eta, Rg.eta, -eq_self]); clear e
  intro e; (try simp only [e, Pi.eta, Pu.eta, Rg.eta, -eq_self]); clear e
  refine ⟨fun c7 => ?_, fun c7 => ?_⟩
  intro e; (try simp only [e, Pi.eta, Pu.eta, Rg.eta, -eq_self]); clear e
  intro e; (try simp only [e, Pi.eta, Pu.eta, Rg.eta, -eq_self]); clear e
  · (have s1 := sgn_t (wfg) (by exact c1); have s2 := uns_t (r := bsgn a) (by rw [s1]; exact c3); have s3 := sgn_f (wf_buns (wf_bsgn wfg)) (by rw [s2, s1]; exact c5); have hok : bnok a = true := (by unfold bnok; (try rw [s3, s2, s1]); (try rw [c0]); (try rw [c2]); (try rw [c4]); (try rw [c7]); (try rfl)); have hnar : bnar a = bsgn (buns (bsgn a)) := (by unfold bnar; rw [hok]; rfl); rw [hok, hnar]; rw [s3, s2, s1]; (try rfl))
  intro e; (try simp only [e, Pi.eta, Pu.eta, Rg.eta, -eq_self]); clear e
  · exact absurd (c4.symm.trans c7) (by simp)
  intro e; (try simp only [e, Pi.eta, Pu.eta, Rg.eta, -eq_self]); clear e
  · (have s1 := sgn_t (wfg) (by exact c1); have s2 := uns_t (r := bsgn a) (by rw [s1]; exact c3); have hok : bnok a = false := (by unfold bnok; (try rw [s2, s1]); (try rw [c0]); (try rw [c2]); (try rw [c4]); (try rfl)); have hnar : bnar a = ball := (by unfold bnar; rw [hok]; rfl); rw [hok, hnar]; (try rfl))
  intro e; (try simp only [e, Pi.eta, Pu.eta, Rg.eta, -eq_self]); clear e
  intro e; (try simp only [e, Pi.eta, Pu.eta, Rg.eta, -eq_self]); clear e
  refine ⟨fun c8 => ?_, fun c8 => ?_⟩
  intro e; (try simp only [e, Pi.eta, Pu.eta, Rg.eta, -eq_self]); clear e
  intro e; (try simp only [e, Pi.eta, Pu.eta, Rg.eta, -eq_self]); clear e
  refine ⟨fun c9 => ?_, fun c9 => ?_⟩
  intro e; (try simp only [e, Pi.eta, Pu.eta, Rg.eta, -eq_self]); clear e
  intro e; (try simp only [e, Pi.eta, Pu.eta, Rg.eta, -eq_self]); clear e
  intro e; (try simp only [e, Pi.eta, Pu.eta, Rg.eta, -eq_self]); clear e
  refine ⟨fun c10 => ?_, fun c10 => ?_⟩
  intro e; (try simp only [e, Pi.eta, Pu.eta, Rg.eta, -eq_self]); clear e
  intro e; (try simp only [e, Pi.eta, Pu.eta, Rg.eta, -eq_self]); clear e
  · (have s1 := sgn_t (wfg) (by exact c1); have s2 := uns_f (r := bsgn a) (by rw [s1]; exact c3); have s3 := sgn_t (wf_buns (wf_bsgn wfg)) (by rw [s2, s1]; exact c9); have hok : bnok a = true := (by unfold bnok; (try rw [s3, s2, s1]); (try rw [c0]); (try rw [c2]); (try rw [c8]); (try rw [c10]); (try rfl)); have hnar : bnar a = bsgn (buns (bsgn a)) := (by unfold bnar; rw [hok]; rfl); rw [hok, hnar]; rw [s3, s2, s1]; (try rfl))
  intro e; (try simp only [e, Pi.eta, Pu.eta, Rg.eta, -eq_self]); clear e
  · (have s1 := sgn_t (wfg) (by exact c1); have s2 := uns_f (r := bsgn a) (by rw [s1]; exact c3); have s3 := sgn_t (wf_buns (wf_bsgn wfg)) (by rw [s2, s1]; exact c9); have hok : bnok a = false := (by unfold bnok; (try rw [s3, s2, s1]); (try rw [c0]); (try rw [c2]); (try rw [c8]); (try rw [c10]); (try rfl)); have hnar : bnar a = ball := (by unfold bnar; rw [hok]; rfl); rw [hok, hnar]; (try rfl))
  intro e; (try simp only [e, Pi.eta, Pu.eta, Rg.eta, -eq_self]); clear e
  intro e; (try simp only [e, Pi.eta, Pu.eta, Rg.eta, -eq_self]); clear e
  refine ⟨fun c11 => ?_, fun c11 => ?_⟩
  intro e; (try simp only [e, Pi.eta, Pu.eta, Rg.eta, -eq_self]); clear e
  intro e; (try simp only [e, Pi.eta, Pu.eta, Rg.eta, -eq_self]); clear e
  · (have s1 := sgn_t (wfg) (by exact c1); have s2 := uns_f (r := bsgn a) (by rw [s1]; exact c3); have s3 := sgn_f (wf_buns (wf_bsgn wfg)) (by rw [s2, s1]; exact c9); have hok : bnok a = true := (by unfold bnok; (try rw [s3, s2, s1]); (try rw [c0]); (try rw [c2]); (try rw [c8]); (try rw [c11]); (try rfl)); have hnar : bnar a = bsgn (buns (bsgn a)) := (by unfold bnar; rw [hok]; rfl); rw [hok, hnar]; rw [s3, s2, s1]; (try rfl))
  intro e; (try simp only [e, Pi.eta, Pu.eta, Rg.eta, -eq_self]); clear e
  · exact absurd (c8.symm.trans c11) (by simp)
  intro e; (try simp only [e, Pi.eta, Pu.eta, Rg.eta, -eq_self]); clear e
  · exact absurd (c2.symm.trans c8) (by simp)
  intro e; (try simp only [e, Pi.eta, Pu.eta, Rg.eta, -eq_self]); clear e
  · (have s1 := sgn_t (wfg) (by exact c1); have hok : bnok a = false := (by unfold bnok; (try rw [s1]); (try rw [c0]); (try rw [c2]); (try rfl)); have hnar : bnar a = ball := (by unfold bnar; rw [hok]; rfl); rw [hok, hnar]; (try rfl))
  intro e; (try simp only [e, Pi.eta, Pu.eta, Rg.eta, -eq_self]); clear e
  intro e; (try simp only [e, Pi.eta, Pu.eta, Rg.eta, -eq_self]); clear e
  refine ⟨fun c12 => ?_, fun c12 => ?_⟩
  intro e; (try simp only [e, Pi.eta, Pu.eta, Rg.eta, -eq_self]); clear e
  intro e; (try simp only [e, Pi.eta, Pu.eta, Rg.eta, -eq_self]); clear e
  refine ⟨fun c13 => ?_, fun c13 => ?_⟩
  intro e; (try simp only [e, Pi.eta, Pu.eta, Rg.eta, -eq_self]); clear e
  intro e; (try simp only [e, Pi.eta, Pu.eta, Rg.eta, -eq_self]); clear e
  intro e; (try simp only [e, Pi.eta, Pu.eta, Rg.eta, -eq_self]); clear e
  refine ⟨fun c14 => ?_, fun c14 => ?_⟩
  intro e; (try simp only [e, Pi.eta, Pu.eta, Rg.eta, -eq_self]); clear e
  intro e; (try simp only [e, Pi.eta, Pu.eta, Rg.eta, -eq_self]); clear e
  refine ⟨fun c15 => ?_, fun c15 => ?_⟩
  intro e; (try simp only [e, Pi.eta, Pu.eta, Rg.eta, -eq_self]); clear e
  intro e; (try simp only [e, Pi.eta, Pu.eta, Rg.eta, -eq_self]); clear e
  intro e; (try simp only [e, Pi.eta, Pu.eta, Rg.eta, -eq_self]); clear e
  refine ⟨fun c16 => ?_, fun c16 => ?_⟩
  intro e; (try simp only [e, Pi.eta, Pu.eta, Rg.eta, -eq_self]); clear e
  intro e; (try simp only [e, Pi.eta, Pu.eta, Rg.eta, -eq_self]); clear e
  · (have s1 := sgn_f (wfg) (by exact c1); have s2 := uns_t (r := bsgn a) (by rw [s1]; exact c13); have s3 := sgn_t (wf_buns (wf_bsgn wfg)) (by rw [s2, s1]; exact c15); have hok : bnok a = true := (by unfold bnok; (try rw [s3, s2, s1]); (try rw [c0]); (try rw [c12]); (try rw [c14]); (try rw [c16]); (try rfl)); have hnar : bnar a = bsgn (buns (bsgn a)) := (by unfold bnar; rw [hok]; rfl); rw [hok, hnar]; rw [s3, s2, s1]; (try rfl))
  intro e; (try simp only [e, Pi.eta, Pu.eta, Rg.eta, -eq_self]); clear e
  · (have s1 := sgn_f (wfg) (by exact c1); have s2 := uns_t (r := bsgn a) (by rw [s1]; exact c13); have s3 := sgn_t (wf_buns (wf_bsgn wfg)) (by rw [s2, s1]; exact c15); have hok : bnok a = false := (by unfold bnok; (try rw [s3, s2, s1]); (try rw [c0]); (try rw [c12]); (try rw [c14]); (try rw [c16]); (try rfl)); have hnar : bnar a = ball := (by unfold bnar; rw [hok]; rfl); rw [hok, hnar]; (try rfl))
  intro e; (try simp only [e, Pi.eta, Pu.eta, Rg.eta, -eq_self]); clear e
  intro e; (try simp only [e, Pi.eta, Pu.eta, Rg.eta, -eq_self]); clear e
  refine ⟨fun c17 => ?_, fun c17 => ?_⟩
  intro e; (try simp only [e, Pi.eta, Pu.eta, Rg.eta, -eq_self]); clear e
  intro e; (try simp only [e, Pi.eta, Pu.eta, Rg.eta, -eq_self]); clear e
  · (have s1 := sgn_f (wfg) (by exact c1); have s2 := uns_t (r := bsgn a) (by rw [s1]; exact c13); have s3 := sgn_f (wf_buns (wf_bsgn wfg)) (by rw [s2, s1]; exact c15); have hok : bnok a = true := (by unfold bnok; (try rw [s3, s2, s1]); (try rw [c0]); (try rw [c12]); (try rw [c14]); (try rw [c17]); (try rfl)); have hnar : bnar a = bsgn (buns (bsgn a)) := (by unfold bnar; rw [hok]; rfl); rw [hok, hnar]; rw [s3, s2, s1]; (try rfl))
  intro e; (try simp only [e, Pi.eta, Pu.eta, Rg.eta, -eq_self]); clear e
  · exact absurd (c14.symm.trans c17) (by simp)
  intro e; (try simp only [e, Pi.eta, Pu.eta, Rg.eta, -eq_self]); clear e
  · (have s1 := sgn_f (wfg) (by exact c1); have s2 := uns_t (r := bsgn a) (by rw [s1]; exact c13); have hok : bnok a = false := (by unfold bnok; (try rw [s2, s1]); (try rw [c0]); (try rw [c12]); (try rw [c14]); (try rfl)); have hnar : bnar a = ball := (by unfold bnar; rw [hok]; rfl); rw [hok, hnar]; (try rfl))
  intro e; (try simp only [e, Pi.eta, Pu.eta, Rg.eta, -eq_self]); clear e
  intro e; (try simp only [e, Pi.eta, Pu.eta, Rg.eta, -eq_self]); clear e
  refine ⟨fun c18 => ?_, fun c18 => ?_⟩
  intro e; (try simp only [e, Pi.eta, Pu.eta, Rg.eta, -eq_self]); clear e
  intro e; (try simp only [e, Pi.eta, Pu.eta, Rg.eta, -eq_self]); clear e
  refine ⟨fun c19 => ?_, fun c19 => ?_⟩
  intro e; (try simp only [e, Pi.eta, Pu.eta, Rg.eta, -eq_self]); clear e
  intro e; (try simp only [e, Pi.eta, Pu.eta, Rg.eta, -eq_self]); clear e
  intro e; (try simp only [e, Pi.eta, Pu.eta, Rg.eta, -eq_self]); clear e
  refine ⟨fun c20 => ?_, fun c20 => ?_⟩
  intro e; (try simp only [e, Pi.eta, Pu.eta, Rg.eta, -eq_self]); clear e
  intro e; (try simp only [e, Pi.eta, Pu.eta, Rg.eta, -eq_self]); clear e
  · (have s1 := sgn_f (wfg) (by exact c1); have s2 := uns_f (r := bsgn a) (by rw [s1]; exact c13); have s3 := sgn_t (wf_buns (wf_bsgn wfg)) (by rw [s2, s1]; exact c19); have hok : bnok a = true := (by unfold bnok; (try rw [s3, s2, s1]); (try rw [c0]); (try rw [c12]); (try rw [c18]); (try rw [c20]); (try rfl)); have hnar : bnar a = bsgn (buns (bsgn a)) := (by unfold bnar; rw [hok]; rfl); rw [hok, hnar]; rw [s3, s2, s1]; (try rfl))
  intro e; (try simp only [e, Pi.eta, Pu.eta, Rg.eta, -eq_self]); clear e
  · (have s1 := sgn_f (wfg) (by exact c1); have s2 := uns_f (r := bsgn a) (by rw [s1]; exact c13); have s3 := sgn_t (wf_buns (wf_bsgn wfg)) (by rw [s2, s1]; exact c19); have hok : bnok a = false := (by unfold bnok; (try rw [s3, s2, s1]); (try rw [c0]); (try rw [c12]); (try rw [c18]); (try rw [c20]); (try rfl)); have hnar : bnar a = ball := (by unfold bnar; rw [hok]; rfl); rw [hok, hnar]; (try rfl))
  intro e; (try simp only [e, Pi.eta, Pu.eta, Rg.eta, -eq_self]); clear e
  intro e; (try simp only [e, Pi.eta, Pu.eta, Rg.eta, -eq_self]); clear e
  refine ⟨fun c21 => ?_, fun c21 => ?_⟩
  intro e; (try simp only [e, Pi.eta, Pu.eta, Rg.eta, -eq_self]); clear e
  intro e; (try simp only [e, Pi.eta, Pu.eta, Rg.eta, -eq_self]); clear e
  · (have s1 := sgn_f (wfg) (by exact c1); have s2 := uns_f (r := bsgn a) (by rw [s1]; exact c13); have s3 := sgn_f (wf_buns (wf_bsgn wfg)) (by rw [s2, s1]; exact c19); have hok : bnok a = true := (by unfold bnok; (try rw [s3, s2, s1]); (try rw [c0]); (try rw [c12]); (try rw [c18]); (try rw [c21]); (try rfl)); have hnar : bnar a = bsgn (buns (bsgn a)) := (by unfold bnar; rw [hok]; rfl); rw [hok, hnar]; rw [s3, s2, s1]; (try rfl))
  intro e; (try simp only [e, Pi.eta, Pu.eta, Rg.eta, -eq_self]); clear e
  · exact absurd (c18.symm.trans c21) (by simp)
  intro e; (try simp only [e, Pi.eta, Pu.eta, Rg.eta, -eq_self]); clear e
  · exact absurd (c12.symm.trans c18) (by simp)
  intro e; (try simp only [e, Pi.eta, Pu.eta, Rg.eta, -eq_self]); clear e
  · exact absurd (c0.symm.trans c12) (by simp)
  intro e; (try simp only [e, Pi.eta, Pu.eta, Rg.eta, -eq_self]); clear e
  · (have hok : bnok a = false := (by unfold bnok; (try rw [hok]); (try rw [c0]); (try rfl)); have hnar : bnar a = ball := (by unfold bnar; rw [hok]; rfl); rw [hok, hnar]; (try rfl))
theorem sK_nar {sp : Spec} {key : Nat} (hF : sp.F key = sF_nar) (hP : sp.pre key = fun _ => True := by rfl) : SmOk Try.prog sp (sM_nar key) :=
  fun_ok (s := sM_nar key) hF hP (by kernel_rfl) tysok_XbB (smc (sK_may rfl) (smc (sK_all rfl) (smc (sK_uns rfl) (smc (sK_sig rfl) (smc (sK_umeet rfl) (smc (sK_imeet rfl) (smc (sK_of rfl) sm0))))))) Try.func65 fn0 sR_nar (.inl rfl) (fun x0 gx0 x1 gx1 x2 gx2 x3 gx3 hp ρ g => sX_nar ⟨x0, x1, x2, x3⟩ ⟨gx0, gx1, gx2, gx3⟩ ρ g)
def sM_meet (key : Nat) : Sm := ⟨62, key, [.agg kRg, .agg kRg], [.agg kRg, .one .bool], true⟩
def sV_meet (a : Rg) (b : Rg) : List Dt := [.z ((bmeet a b).ul), .z ((bmeet a b).uh), .z ((bmeet a b).sl), .z ((bmeet a b).sh), .z (b2i (bmeets a b))]
def sF_meet : List Dt → List Dt
  | [.z x0, .z x1, .z x2, .z x3, .z x4, .z x5, .z x6, .z x7] => sV_meet ⟨x0, x1, x2, x3⟩ ⟨x4, x5, x6, x7⟩
  | _ => []
def sT_meet : Tr :=
(.call 0 ([.bool]) (.vs 0 4 .nil) 8
(.br (.bvar 8)
(.call 0 ([.bool]) (.vs 4 4 .nil) 9
(.br (.bvar 9)
(.call 2 (kPu) (.vs 0 4 .nil) 10
(.call 2 (kPu) (.vs 4 4 .nil) 12
(.call 4 (kPu) (.vs 10 4 .nil) 14
(.call 3 (kPi) (.vs 0 4 .nil) 16
(.call 3 (kPi) (.vs 4 4 .nil) 18
(.call 5 (kPi) (.vs 16 4 .nil) 20
(.call 6 (kRg) (.vs 14 2 (.vs 20 2 .nil)) 22
(.call 7 (kRg ++ [.bool]) (.vs 22 4 .nil) 26
(.leaf (.vs 26 4 (.consb (.bvar 30) .nil)))))))))))
(.call 1 (kRg) .nil 10
(.leaf (.vs 10 4 (.consb (.tt false) .nil))))))
(.call 1 (kRg) .nil 9
(.leaf (.vs 9 4 (.consb (.tt false) .nil))))))
def sP_meet : Spec := ⟨fun k => match k with | 0 => sF_may | 1 => sF_all | 2 => sF_uns | 3 => sF_sig | 4 => sF_umeet | 5 => sF_imeet | 6 => sF_of | 7 => sF_nar | _ => fun _ => [], fun k => match k with | _ => fun _ => True⟩
set_option maxRecDepth 100000 in
theorem sR_meet : treeIs tys_XbB [sM_may 0, sM_all 1, sM_uns 2, sM_sig 3, sM_umeet 4, sM_imeet 5, sM_of 6, sM_nar 7] [] [] [] 200 Try.f62 [.agg kRg, .agg kRg] [.agg kRg, .one .bool] true [.int .u64, .int .u64, .int .i64, .int .i64, .int .u64, .int .u64, .int .i64, .int .i64] sT_meet := ⟨by kernel_rfl, by kernel_rfl, by kernel_rfl⟩
set_option maxRecDepth 100000 in
set_option maxHeartbeats 8000000 in
theorem sX_meet (a : Rg) (ha : Rg.ok a) (b : Rg) (hb : Rg.ok b) (ρ : Env) (g : varsD ρ 0 [.int .u64, .int .u64, .int .i64, .int .i64, .int .u64, .int .u64, .int .i64, .int .i64] = [.z a.ul, .z a.uh, .z a.sl, .z a.sh, .z b.ul, .z b.uh, .z b.sl, .z b.sh]) : sT_meet.asks sP_meet (fun ρ e => e.D ρ = sF_meet [.z a.ul, .z a.uh, .z a.sl, .z a.sh, .z b.ul, .z b.uh, .z b.sl, .z b.sh]) ρ fun _ _ => False := by
  simp only [varsD, varD, List.cons.injEq, Dt.z.injEq, Dt.l.injEq, b2i_eq_iff, Nat.reduceAdd, and_true] at g
  simp only [sT_meet, sP_meet, kPi, kPu, kRg, sF_may, sF_all, sF_uns, sF_sig, sF_umeet, sF_imeet, sF_of, sF_nar, sV_may, sV_uns, sV_sig, sV_umeet, sV_imeet, sV_of, sV_nar, sF_meet, sV_meet, Tr.asks, upd_same, okDs, okD, eqs, E.I, E.B, E.L, E.R, E.D, E.vs, dI, dB, dL, varD, varsD, List.getElem?_cons_zero, List.getElem?_cons_succ, List.cons_append, List.nil_append, Nat.zero_add, Nat.add_zero, Nat.reduceAdd, and_true, true_and, b2i_one, -eq_self, Pi.eta, Pu.eta, Rg.eta, g]
  intro e; (try simp only [e, Pi.eta, Pu.eta, Rg.eta, -eq_self]); clear e
  refine ⟨fun c0 => ?_, fun c0 => ?_⟩
  intro e; (try simp only [e, Pi.eta, Pu.eta, Rg.eta, -eq_self]); clear e
  refine ⟨fun c1 => ?_, fun c1 => ?_⟩
  intro e; (try simp only [e, Pi.eta, Pu.eta, Rg.eta, -eq_self]); clear e
  intro e; (try simp only [e, Pi.eta, Pu.eta, Rg.eta, -eq_self]); clear e
  intro e; (try simp only [e, Pi.eta, Pu.eta, Rg.eta, -eq_self]); clear e
  intro e; (try simp only [e, Pi.eta, Pu.eta, Rg.eta, -eq_self]); clear e
  intro e; (try simp only [e, Pi.eta, Pu.eta, Rg.eta, -eq_self]); clear e
  intro e; (try simp only [e, Pi.eta, Pu.eta, Rg.eta, -eq_self]); clear e
  intro e; (try simp only [e, Pi.eta, Pu.eta, Rg.eta, -eq_self]); clear e
  intro e; (try simp only [e, Pi.eta, Pu.eta, Rg.eta, -eq_self]); clear e
  · (unfold bmeet bmeets; simp_all [bmeet0, bnar_if])
  intro e; (try simp only [e, Pi.eta, Pu.eta, Rg.eta, -eq_self]); clear e
  · (unfold bmeet bmeets; simp_all [bmeet0, bnar_if])
  intro e; (try simp only [e, Pi.eta, Pu.eta, Rg.eta, -eq_self]); clear e
  · (unfold bmeet bmeets; simp_all [bmeet0, bnar_if])
theorem sK_meet {sp : Spec} {key : Nat} (hF : sp.F key = sF_meet) (hP : sp.pre key = fun _ => True := by rfl) : SmOk Try.prog sp (sM_meet key) :=
  fun_ok (s := sM_meet key) hF hP (by kernel_rfl) tysok_XbB (smc (sK_may rfl) (smc (sK_all rfl) (smc (sK_uns rfl) (smc (sK_sig rfl) (smc (sK_umeet rfl) (smc (sK_imeet rfl) (smc (sK_of rfl) (smc (sK_nar rfl) sm0)))))))) Try.func62 fn0 sR_meet (.inl rfl) (fun x0 gx0 x1 gx1 x2 gx2 x3 gx3 x4 gx4 x5 gx5 x6 gx6 x7 gx7 hp ρ g => sX_meet ⟨x0, x1, x2, x3⟩ ⟨gx0, gx1, gx2, gx3⟩ ⟨x4, x5, x6, x7⟩ ⟨gx4, gx5, gx6, gx7⟩ ρ g)
def sM_in (key : Nat) : Sm := ⟨55, key, [.agg kRg, .agg kRg], [.one .bool], false⟩
def sV_in (a : Rg) (b : Rg) : List Dt := [.z (b2i (bin a b))]
def sF_in : List Dt → List Dt
  | [.z x0, .z x1, .z x2, .z x3, .z x4, .z x5, .z x6, .z x7] => sV_in ⟨x0, x1, x2, x3⟩ ⟨x4, x5, x6, x7⟩
  | _ => []
def sT_in : Tr :=
(.call 0 ([.bool]) (.vs 0 4 .nil) 8
(.br (.bvar 8)
(.call 0 ([.bool]) (.vs 4 4 .nil) 9
(.br (.bvar 9)
(.call 1 (kRg) (.vs 0 8 .nil) 10
(.leaf (.consb (.and (.eq (.var 10) (.var 4)) (.and (.eq (.var 11) (.var 5)) (.and (.eq (.var 12) (.var 6)) (.and (.eq (.var 13) (.var 7)) (.tt true))))) .nil)))
(.leaf (.consb (.tt false) .nil))))
(.leaf (.consb (.tt false) .nil))))
def sP_in : Spec := ⟨fun k => match k with | 0 => sF_may | 1 => sF_join | _ => fun _ => [], fun k => match k with | _ => fun _ => True⟩
set_option maxRecDepth 100000 in
theorem sR_in : treeIs tys_XbB [sM_may 0, sM_join 1] [] [] [] 200 Try.f55 [.agg kRg, .agg kRg] [.one .bool] false [.int .u64, .int .u64, .int .i64, .int .i64, .int .u64, .int .u64, .int .i64, .int .i64] sT_in := ⟨by kernel_rfl, by kernel_rfl, by kernel_rfl⟩
set_option maxRecDepth 100000 in
set_option maxHeartbeats 8000000 in
theorem sX_in (a : Rg) (ha : Rg.ok a) (b : Rg) (hb : Rg.ok b) (ρ : Env) (g : varsD ρ 0 [.int .u64, .int .u64, .int .i64, .int .i64, .int .u64, .int .u64, .int .i64, .int .i64] = [.z a.ul, .z a.uh, .z a.sl, .z a.sh, .z b.ul, .z b.uh, .z b.sl, .z b.sh]) : sT_in.asks sP_in (fun ρ e => e.D ρ = sF_in [.z a.ul, .z a.uh, .z a.sl, .z a.sh, .z b.ul, .z b.uh, .z b.sl, .z b.sh]) ρ fun _ _ => False := by
  simp only [varsD, varD, List.cons.injEq, Dt.z.injEq, Dt.l.injEq, b2i_eq_iff, Nat.reduceAdd, and_true] at g
  simp only [sT_in, sP_in, kRg, sF_may, sF_join, sV_may, sV_join, sF_in, sV_in, Tr.asks, upd_same, okDs, okD, eqs, E.I, E.B, E.L, E.R, E.D, E.vs, dI, dB, dL, varD, varsD, List.getElem?_cons_zero, List.getElem?_cons_succ, List.cons_append, List.nil_append, Nat.zero_add, Nat.add_zero, Nat.reduceAdd, and_true, true_and, b2i_one, -eq_self, Pi.eta, Pu.eta, Rg.eta, g]
  intro e; (try simp only [e, Pi.eta, Pu.eta, Rg.eta, -eq_self]); clear e
  refine ⟨fun c0 => ?_, fun c0 => ?_⟩
  intro e; (try simp only [e, Pi.eta, Pu.eta, Rg.eta, -eq_self]); clear e
  refine ⟨fun c1 => ?_, fun c1 => ?_⟩
  intro e; (try simp only [e, Pi.eta, Pu.eta, Rg.eta, -eq_self]); clear e
  · (unfold bin; simp_all [Rg.ext_iff]; try (rw [Bool.eq_iff_iff]; simp))
  · (unfold bin; simp_all [Rg.ext_iff]; try (rw [Bool.eq_iff_iff]; simp))
  · (unfold bin; simp_all [Rg.ext_iff]; try (rw [Bool.eq_iff_iff]; simp))
theorem sK_in {sp : Spec} {key : Nat} (hF : sp.F key = sF_in) (hP : sp.pre key = fun _ => True := by rfl) : SmOk Try.prog sp (sM_in key) :=
  fun_ok (s := sM_in key) hF hP (by kernel_rfl) tysok_XbB (smc (sK_may rfl) (smc (sK_join rfl) sm0)) Try.func55 fn0 sR_in (.inl rfl) (fun x0 gx0 x1 gx1 x2 gx2 x3 gx3 x4 gx4 x5 gx5 x6 gx6 x7 gx7 hp ρ g => sX_in ⟨x0, x1, x2, x3⟩ ⟨gx0, gx1, gx2, gx3⟩ ⟨x4, x5, x6, x7⟩ ⟨gx4, gx5, gx6, gx7⟩ ρ g)
end Go.Proofs.Ytgfghplnankgnaa

