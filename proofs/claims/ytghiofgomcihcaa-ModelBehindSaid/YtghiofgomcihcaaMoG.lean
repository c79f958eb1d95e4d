/- The law ModelBehind. -/
import Derived.Test.YtghiofgomcihcaaMoF
import Derived.Test.YtghiofgomcihcaaLiQ
import Derived.Test.YtghiofgomcihcaaProg
import Derived.Laws.Externs
set_option linter.unusedVariables false
set_option linter.unusedSimpArgs false
namespace Go.Proofs.Ytghiofgomcihcaa
open Go.RowKit Go.ChangeShapes Go.WideShapes

theorem rwU8 : Rw Try.prog 5 [some .u8] := Rw.int .u8 Try.underlying5 (by kernel_rfl)
theorem rwU64 : Rw Try.prog 30 [some .u64] := Rw.int .u64 Try.underlying30 (by kernel_rfl)
def tys_MoG : List (Nat × TI) := [(3, ⟨false, 1, [.int .i64 (.lit 0)], [], none, some .i64, false, false, none, 8, false, none, false, 0⟩),
 (4, ⟨false, 1, [.bool (.tt false)], [], none, none, false, true, none, 1, false, none, false, 0⟩),
 (5, ⟨false, 1, [.int .u8 (.lit 0)], [], none, some .u8, false, false, none, 1, false, none, false, 0⟩),
 (22, ⟨false, 1, [.nsl], [], none, none, false, false, some 44, 24, false, none, false, 0⟩),
 (24, ⟨true, 2, [.int .i64 (.lit 0), .nsl], [(0, 3), (1, 22)], none, none, false, false, none, 32, false, none, false, 0⟩),
 (25, ⟨false, 1, [.nsl], [], none, none, false, false, some 5, 24, false, none, false, 0⟩),
 (26, ⟨false, 1, [.nsl], [], none, none, false, false, some 30, 24, false, none, false, 0⟩),
 (29, ⟨false, 1, [.int .i8 (.lit 0)], [], none, some .i8, false, false, none, 1, false, none, false, 0⟩),
 (30, ⟨false, 1, [.int .u64 (.lit 0)], [], none, some .u64, false, false, none, 8, false, none, false, 0⟩),
 (31, ⟨false, 1, [.nsl], [], none, none, false, false, some 39, 24, false, none, false, 0⟩),
 (33, ⟨true, 5, [.int .i8 (.lit 0), .int .u64 (.lit 0), .nsl, .nsl, .int .i64 (.lit 0)], [(0, 29), (1, 30), (2, 25), (3, 31), (4, 3)], none, none, false, false, none, 72, false, none, false, 0⟩),
 (34, ⟨false, 1, [.int .i64 (.lit 0)], [], none, some .i64, false, false, none, 8, false, none, false, 0⟩),
 (39, ⟨true, 3, [.int .i64 (.lit 0), .nsl, .int .u64 (.lit 0)], [(0, 3), (1, 26), (2, 30)], none, none, false, false, none, 40, false, none, false, 0⟩),
 (44, ⟨true, 9, [.int .i8 (.lit 0), .int .i8 (.lit 0), .int .i8 (.lit 0), .int .i8 (.lit 0), .bool (.tt false), .int .i8 (.lit 0), .int .i8 (.lit 0), .int .i64 (.lit 0), .int .i64 (.lit 0)], [(0, 29), (1, 29), (2, 29), (3, 29), (4, 4), (5, 29), (6, 29), (7, 3), (8, 3)], none, none, true, false, none, 24, false, none, false, 0⟩)]
set_option maxRecDepth 100000 in
theorem tysck_MoG : (tys_MoG.all fun p => ckTI Try.prog p.1 p.2) = true := by kernel_rfl
theorem tyseq_MoG : (tys_MoG.all fun p => !p.2.eqok || ((Nat.beq p.1 44 && kindsC p.2.zero z_Ins))) = true := by kernel_rfl
theorem tyskn_MoG : (tys_MoG.all fun p => !p.2.keyok) = true := by kernel_rfl
theorem tysok_MoG : ∀ t i, (t, i) ∈ tys_MoG → TIok Try.prog t i := by
  intro t i h
  refine TIok_of (all_at (f := ckTI Try.prog) tysck_MoG h) (fun he => ?_) (fun he => ?_) (fun he => ?_)
  · have h1 := List.all_eq_true.1 tyseq_MoG (t, i) h
    simp only [he, Bool.not_true, Bool.false_or, Bool.or_eq_true, Bool.and_eq_true] at h1
    have hs := h1.2
    obtain rfl := Nat.eq_of_beq_eq_true h1.1
    exact fun vs us hv hu => eq_Ins vs us (kindsV_of hs hv) (kindsV_of hs hu)
  · have h1 := List.all_eq_true.1 tyseq_MoG (t, i) h
    simp only [he, Bool.not_true, Bool.false_or, Bool.or_eq_true, Bool.and_eq_true] at h1
    have hs := h1.2
    obtain rfl := Nat.eq_of_beq_eq_true h1.1
    exact grd_Ins
  · have h1 := List.all_eq_true.1 tyskn_MoG (t, i) h
    simp [he] at h1
def sV_lbehind (p : Prog) (cx : List (List Int)) (an : List (List Int)) (fu : Int) (more : Int) : List Dt := [.z (b2i true)]
def sF_lbehind : List Dt → List Dt
  | [.z x0, .l x1, .l x2, .l x3, .z x4, .z x5] => sV_lbehind ⟨x0, x1⟩ x2 x3 x4 x5
  | _ => []
def sT_lbehind : Tr :=
(.br (.lt (.lit 100) (.len (.lvar 1)))
(.call 1 [.bool] .nil 6
(.leaf (.consb (.bvar 6) .nil)))
(.br (.lt (.lit 400) (.len (.lvar 2)))
(.call 1 [.bool] .nil 6
(.leaf (.consb (.bvar 6) .nil)))
(.br (.lt (.lit 400) (.len (.lvar 3)))
(.call 1 [.bool] .nil 6
(.leaf (.consb (.bvar 6) .nil)))
(.br (.lt (.lit 2000) (.var 4))
(.br (.lt (.lit 10000) (.var 4))
(.call 0 (kOut ++ [.int .i64]) (.cons (.var 0) (.consl (.lvar 1) (.consl (.lvar 2) (.consl (.lvar 3) (.cons (.var 4) .nil))))) 6
(.br (.eq (.var 11) (.lit 0))
(.br (.lt (.len (.lvar 1)) (.lit 1073741824))
(.loop 0 12 [.int .i64, .list [some .i8, some .i8, some .i8, some .i8, none, some .i8, some .i8, some .i64, some .i64]] (.cons (.lit 0) (.consl (.lvar 1) .nil))
(.br (.lt (.var 12) (.var 5))
(.br (.lt (.len (.lvar 13)) (.lit 64))
(.br (.lt (.len (.lvar 13)) (.lit 1073741824))
(.next 0 (.cons (.bin .add .i64 (.var 12) (.lit 1)) (.consl (.lapp (.lvar 13) (.cons (.lit 6) (.cons (.lit 0) (.cons (.lit 0) (.cons (.lit 0) (.consb (.tt false) (.cons (.lit 0) (.cons (.lit 0) (.cons (.lit 0) (.cons (.lit 0) .nil)))))))))) .nil)))
.panic)
(.call 0 (kOut ++ [.int .i64]) (.cons (.var 0) (.consl (.lvar 13) (.consl (.lvar 2) (.consl (.lvar 3) (.cons (.var 4) .nil))))) 14
(.br (.eq (.var 19) (.lit 0))
(.call 2 [.bool] (.vs 6 2 (.consl (.lvar 8) (.consl (.lvar 9) (.cons (.var 10) (.vs 14 2 (.consl (.lvar 16) (.consl (.lvar 17) (.cons (.var 18) .nil)))))))) 20
(.br (.bvar 20)
(.call 1 [.bool] .nil 21
(.leaf (.consb (.bvar 21) .nil)))
(.leaf (.consb (.tt false) .nil))))
(.leaf (.consb (.tt false) .nil)))))
(.call 0 (kOut ++ [.int .i64]) (.cons (.var 0) (.consl (.lvar 13) (.consl (.lvar 2) (.consl (.lvar 3) (.cons (.var 4) .nil))))) 14
(.br (.eq (.var 19) (.lit 0))
(.call 2 [.bool] (.vs 6 2 (.consl (.lvar 8) (.consl (.lvar 9) (.cons (.var 10) (.vs 14 2 (.consl (.lvar 16) (.consl (.lvar 17) (.cons (.var 18) .nil)))))))) 20
(.br (.bvar 20)
(.call 1 [.bool] .nil 21
(.leaf (.consb (.bvar 21) .nil)))
(.leaf (.consb (.tt false) .nil))))
(.leaf (.consb (.tt false) .nil))))))
.panic)
(.call 1 [.bool] .nil 12
(.leaf (.consb (.bvar 12) .nil)))))
(.call 1 [.bool] .nil 6
(.leaf (.consb (.bvar 6) .nil))))
(.call 0 (kOut ++ [.int .i64]) (.cons (.var 0) (.consl (.lvar 1) (.consl (.lvar 2) (.consl (.lvar 3) (.cons (.var 4) .nil))))) 6
(.br (.eq (.var 11) (.lit 0))
(.br (.lt (.len (.lvar 1)) (.lit 1073741824))
(.loop 0 12 [.int .i64, .list [some .i8, some .i8, some .i8, some .i8, none, some .i8, some .i8, some .i64, some .i64]] (.cons (.lit 0) (.consl (.lvar 1) .nil))
(.br (.lt (.var 12) (.var 5))
(.br (.lt (.len (.lvar 13)) (.lit 64))
(.br (.lt (.len (.lvar 13)) (.lit 1073741824))
(.next 0 (.cons (.bin .add .i64 (.var 12) (.lit 1)) (.consl (.lapp (.lvar 13) (.cons (.lit 6) (.cons (.lit 0) (.cons (.lit 0) (.cons (.lit 0) (.consb (.tt false) (.cons (.lit 0) (.cons (.lit 0) (.cons (.lit 0) (.cons (.lit 0) .nil)))))))))) .nil)))
.panic)
(.call 0 (kOut ++ [.int .i64]) (.cons (.var 0) (.consl (.lvar 13) (.consl (.lvar 2) (.consl (.lvar 3) (.cons (.var 4) .nil))))) 14
(.br (.eq (.var 19) (.lit 0))
(.call 2 [.bool] (.vs 6 2 (.consl (.lvar 8) (.consl (.lvar 9) (.cons (.var 10) (.vs 14 2 (.consl (.lvar 16) (.consl (.lvar 17) (.cons (.var 18) .nil)))))))) 20
(.br (.bvar 20)
(.call 1 [.bool] .nil 21
(.leaf (.consb (.bvar 21) .nil)))
(.leaf (.consb (.tt false) .nil))))
(.leaf (.consb (.tt false) .nil)))))
(.call 0 (kOut ++ [.int .i64]) (.cons (.var 0) (.consl (.lvar 13) (.consl (.lvar 2) (.consl (.lvar 3) (.cons (.var 4) .nil))))) 14
(.br (.eq (.var 19) (.lit 0))
(.call 2 [.bool] (.vs 6 2 (.consl (.lvar 8) (.consl (.lvar 9) (.cons (.var 10) (.vs 14 2 (.consl (.lvar 16) (.consl (.lvar 17) (.cons (.var 18) .nil)))))))) 20
(.br (.bvar 20)
(.call 1 [.bool] .nil 21
(.leaf (.consb (.bvar 21) .nil)))
(.leaf (.consb (.tt false) .nil))))
(.leaf (.consb (.tt false) .nil))))))
.panic)
(.call 1 [.bool] .nil 12
(.leaf (.consb (.bvar 12) .nil)))))))))
def sP_lbehind : Spec := ⟨fun k => match k with | 0 => sF_mrun | 1 => sF_lwakes | 2 => sF_esame | _ => fun _ => [], fun k => match k with | 0 => sQ_mrun | _ => fun _ => True⟩
set_option maxRecDepth 100000 in
theorem sR_lbehind : treeIs tys_MoG [sM_mrun 0, sM_lwakes 1, sM_esame 2] [(9, Try.f9, [], [])] [(10, [.tmpI 14 .i64, .celS 8 1 [some .i8, some .i8, some .i8, some .i8, none, some .i8, some .i8, some .i64, some .i64] 44, .gone 9, .top 41, .top 43, .top 44, .top 45, .top 46, .top 47, .top 48, .top 49, .top 50, .top 51, .top 54, .top 55, .top 56, .top 57, .top 58, .top 59, .top 52, .top 53]), (999999, []), (999998, [])] [] 200 Try.f4 [.agg kProg, .one (.sl [some .u8] 5), .one (.sl [some .u64] 30), .one (.int .i64), .one (.int .i64)] [.one .bool] false [.int .i64, .list [some .i8, some .i8, some .i8, some .i8, none, some .i8, some .i8, some .i64, some .i64], .list [some .u8], .list [some .u64], .int .i64, .int .i64] sT_lbehind := ⟨by kernel_rfl, by kernel_rfl, by kernel_rfl⟩
set_option maxRecDepth 100000 in
set_option maxHeartbeats 8000000 in
theorem sX_lbehind (p : Prog) (hp : Prog.ok p) (cx : List (List Int)) (hcx : RowsIn [some .u8] cx) (an : List (List Int)) (han : RowsIn [some .u64] an) (fu : Int) (hfu : inK .i64 fu = true) (more : Int) (hmore : inK .i64 more = true) (ρ : Env) (g : varsD ρ 0 [.int .i64, .list [some .i8, some .i8, some .i8, some .i8, none, some .i8, some .i8, some .i64, some .i64], .list [some .u8], .list [some .u64], .int .i64, .int .i64] = [.z p.ctx, .l p.l, .l cx, .l an, .z fu, .z more]) : sT_lbehind.asks sP_lbehind (fun ρ e => e.D ρ = sF_lbehind [.z p.ctx, .l p.l, .l cx, .l an, .z fu, .z more]) ρ fun _ _ => False := by
  have keepg := g
  simp only [varsD, varD, List.cons.injEq, Dt.z.injEq, Dt.l.injEq, b2i_eq_iff, Nat.reduceAdd, and_true] at g
  simp only [sT_lbehind, sP_lbehind, kOut, sF_mrun, sF_lwakes, sF_esame, sV_mrun, sV_esame, sF_lbehind, sV_lbehind, sQ_mrun, Tr.asks, upd_same, okDs, okD, eqs, E.I, E.B, E.L, E.R, E.D, E.vs, dI, dB, dL, varD, varsD, List.getElem?_cons_zero, List.getElem?_cons_succ, List.cons_append, List.nil_append, Nat.zero_add, Nat.add_zero, Nat.reduceAdd, and_true, true_and, b2i_one, -eq_self, Ins.eta, Prog.eta, insAt_mk, Mem.eta, Mach.eta, g]
  obtain ⟨k0_i0, k0_l1, k0_l2, k0_l3, k0_i4, k0_i5⟩ := g
  refine ⟨fun c0 => ?_, fun c0 => ?_⟩
  intro e; (try simp only [e, Ins.eta, Prog.eta, insAt_mk, Mem.eta, Mach.eta, -eq_self]); clear e
  · rfl
  refine ⟨fun c1 => ?_, fun c1 => ?_⟩
  intro e; (try simp only [e, Ins.eta, Prog.eta, insAt_mk, Mem.eta, Mach.eta, -eq_self]); clear e
  · rfl
  refine ⟨fun c2 => ?_, fun c2 => ?_⟩
  intro e; (try simp only [e, Ins.eta, Prog.eta, insAt_mk, Mem.eta, Mach.eta, -eq_self]); clear e
  · rfl
  refine ⟨fun c3 => ?_, fun c3 => ?_⟩
  refine ⟨fun c4 => ?_, fun c4 => ?_⟩
  refine ⟨?_, ?_⟩
  · exact ⟨⟨hp.2.len, hcx.len⟩, han.len⟩
  intro e; have ⟨k0_i6, k0_i7, k0_l8, k0_l9, k0_i10, k0_i11⟩ := e; (try simp only [e, Ins.eta, Prog.eta, insAt_mk, Mem.eta, Mach.eta, -eq_self]); clear e
  refine ⟨fun c5 => ?_, fun c5 => ?_⟩
  refine ⟨fun c6 => ?_, fun c6 => ?_⟩
  have he : (mrun p cx an fu).2 = 0 := eqI c5
  refine ⟨fun ds => ∃ (i : Int) (k : Nat), ds = [.z i, .l (p.l ++ List.replicate k exitI)] ∧ 0 ≤ i ∧ (p.l.length + k ≤ 64 ∨ k = 0), fun ds => (more - dI ds 0).toNat, ⟨0, 0, by rw [List.replicate_zero, List.append_nil], Int.le_refl _, .inr rfl⟩, ?_⟩
  intro ρ1 ha1 _ hi1
  obtain ⟨i, k, hds, hi0, hk⟩ := hi1
  simp only [List.cons.injEq, Dt.z.injEq, Dt.l.injEq, b2i_eq_iff, and_true] at hds
  obtain ⟨k1_i12, k1_l13⟩ := hds
  have k1_i0 : ρ1.i 0 = _ := (ha1 0 (by decide)).1.symm.trans k0_i0
  have k1_l1 : ρ1.l 1 = _ := (ha1 1 (by decide)).2.2.symm.trans k0_l1
  have k1_l2 : ρ1.l 2 = _ := (ha1 2 (by decide)).2.2.symm.trans k0_l2
  have k1_l3 : ρ1.l 3 = _ := (ha1 3 (by decide)).2.2.symm.trans k0_l3
  have k1_i4 : ρ1.i 4 = _ := (ha1 4 (by decide)).1.symm.trans k0_i4
  have k1_i5 : ρ1.i 5 = _ := (ha1 5 (by decide)).1.symm.trans k0_i5
  have k1_i6 : ρ1.i 6 = _ := (ha1 6 (by decide)).1.symm.trans k0_i6
  have k1_i7 : ρ1.i 7 = _ := (ha1 7 (by decide)).1.symm.trans k0_i7
  have k1_l8 : ρ1.l 8 = _ := (ha1 8 (by decide)).2.2.symm.trans k0_l8
  have k1_l9 : ρ1.l 9 = _ := (ha1 9 (by decide)).2.2.symm.trans k0_l9
  have k1_i10 : ρ1.i 10 = _ := (ha1 10 (by decide)).1.symm.trans k0_i10
  have hlen : (p.l ++ List.replicate k exitI).length = p.l.length + k := by rw [List.length_append, List.length_replicate]
  have hpl := hp.2.len
  simp only [k1_i0, k1_l1, k1_l2, k1_l3, k1_i4, k1_i5, k1_i6, k1_i7, k1_l8, k1_l9, k1_i10, k1_i12, k1_l13, insAt_mk, -eq_self]
  refine ⟨fun c7 => ?_, fun c7 => ?_⟩
  refine ⟨fun c8 => ?_, fun c8 => ?_⟩
  refine ⟨fun c9 => ?_, fun c9 => ?_⟩
  · have hm : i < more := of_decide_eq_true c7
    have h64 : (((p.l ++ List.replicate k exitI).length : Nat) : Int) < 64 := of_decide_eq_true c8
    rw [hlen] at h64
    have hmi := in_i64 hmore
    rw [show opI .add .i64 i 1 = i + 1 from wrI (by omega) (by omega)]
    exact ⟨⟨i + 1, k + 1, by rw [List.replicate_succ', ← List.append_assoc]; rfl, by omega, .inl (by omega)⟩, by show (more - (i + 1)).toNat < (more - i).toNat; omega⟩
  · exact absurd (of_decide_eq_false c9) (by have := of_decide_eq_true c8; omega)
  refine ⟨?_, ?_⟩
  · exact ⟨⟨by rw [hlen]; rcases hk with h | h; exact Nat.le_trans h (by decide); rw [h]; exact hpl, hcx.len⟩, han.len⟩
  intro e; simp only [mrun_behind hp.2.len he hk] at e; (try simp only [e, Ins.eta, Prog.eta, insAt_mk, Mem.eta, Mach.eta, -eq_self]); clear e
  refine ⟨fun c10 => ?_, fun c10 => ?_⟩
  intro e; (try simp only [e, Ins.eta, Prog.eta, insAt_mk, Mem.eta, Mach.eta, -eq_self]); clear e
  refine ⟨fun c11 => ?_, fun c11 => ?_⟩
  intro e; (try simp only [e, Ins.eta, Prog.eta, insAt_mk, Mem.eta, Mach.eta, -eq_self]); clear e
  · rfl
  · exact Bool.noConfusion ((esame_refl (mrun p cx an fu).1).symm.trans c11)
  · exact absurd he (neI c10)
  refine ⟨?_, ?_⟩
  · exact ⟨⟨by rw [hlen]; rcases hk with h | h; exact Nat.le_trans h (by decide); rw [h]; exact hpl, hcx.len⟩, han.len⟩
  intro e; simp only [mrun_behind hp.2.len he hk] at e; (try simp only [e, Ins.eta, Prog.eta, insAt_mk, Mem.eta, Mach.eta, -eq_self]); clear e
  refine ⟨fun c12 => ?_, fun c12 => ?_⟩
  intro e; (try simp only [e, Ins.eta, Prog.eta, insAt_mk, Mem.eta, Mach.eta, -eq_self]); clear e
  refine ⟨fun c13 => ?_, fun c13 => ?_⟩
  intro e; (try simp only [e, Ins.eta, Prog.eta, insAt_mk, Mem.eta, Mach.eta, -eq_self]); clear e
  · rfl
  · exact Bool.noConfusion ((esame_refl (mrun p cx an fu).1).symm.trans c13)
  · exact absurd he (neI c12)
  · exact absurd (of_decide_eq_false c6) (by have := of_decide_eq_false c0; omega)
  intro e; (try simp only [e, Ins.eta, Prog.eta, insAt_mk, Mem.eta, Mach.eta, -eq_self]); clear e
  · rfl
  intro e; (try simp only [e, Ins.eta, Prog.eta, insAt_mk, Mem.eta, Mach.eta, -eq_self]); clear e
  · rfl
  refine ⟨?_, ?_⟩
  · exact ⟨⟨hp.2.len, hcx.len⟩, han.len⟩
  intro e; have ⟨k0_i6, k0_i7, k0_l8, k0_l9, k0_i10, k0_i11⟩ := e; (try simp only [e, Ins.eta, Prog.eta, insAt_mk, Mem.eta, Mach.eta, -eq_self]); clear e
  refine ⟨fun c14 => ?_, fun c14 => ?_⟩
  refine ⟨fun c15 => ?_, fun c15 => ?_⟩
  have he : (mrun p cx an fu).2 = 0 := eqI c14
  refine ⟨fun ds => ∃ (i : Int) (k : Nat), ds = [.z i, .l (p.l ++ List.replicate k exitI)] ∧ 0 ≤ i ∧ (p.l.length + k ≤ 64 ∨ k = 0), fun ds => (more - dI ds 0).toNat, ⟨0, 0, by rw [List.replicate_zero, List.append_nil], Int.le_refl _, .inr rfl⟩, ?_⟩
  intro ρ1 ha1 _ hi1
  obtain ⟨i, k, hds, hi0, hk⟩ := hi1
  simp only [List.cons.injEq, Dt.z.injEq, Dt.l.injEq, b2i_eq_iff, and_true] at hds
  obtain ⟨k1_i12, k1_l13⟩ := hds
  have k1_i0 : ρ1.i 0 = _ := (ha1 0 (by decide)).1.symm.trans k0_i0
  have k1_l1 : ρ1.l 1 = _ := (ha1 1 (by decide)).2.2.symm.trans k0_l1
  have k1_l2 : ρ1.l 2 = _ := (ha1 2 (by decide)).2.2.symm.trans k0_l2
  have k1_l3 : ρ1.l 3 = _ := (ha1 3 (by decide)).2.2.symm.trans k0_l3
  have k1_i4 : ρ1.i 4 = _ := (ha1 4 (by decide)).1.symm.trans k0_i4
  have k1_i5 : ρ1.i 5 = _ := (ha1 5 (by decide)).1.symm.trans k0_i5
  have k1_i6 : ρ1.i 6 = _ := (ha1 6 (by decide)).1.symm.trans k0_i6
  have k1_i7 : ρ1.i 7 = _ := (ha1 7 (by decide)).1.symm.trans k0_i7
  have k1_l8 : ρ1.l 8 = _ := (ha1 8 (by decide)).2.2.symm.trans k0_l8
  have k1_l9 : ρ1.l 9 = _ := (ha1 9 (by decide)).2.2.symm.trans k0_l9
  have k1_i10 : ρ1.i 10 = _ := (ha1 10 (by decide)).1.symm.trans k0_i10
  have hlen : (p.l ++ List.replicate k exitI).length = p.l.length + k := by rw [List.length_append, List.length_replicate]
  have hpl := hp.2.len
  simp only [k1_i0, k1_l1, k1_l2, k1_l3, k1_i4, k1_i5, k1_i6, k1_i7, k1_l8, k1_l9, k1_i10, k1_i12, k1_l13, insAt_mk, -eq_self]
  refine ⟨fun c16 => ?_, fun c16 => ?_⟩
  refine ⟨fun c17 => ?_, fun c17 => ?_⟩
  refine ⟨fun c18 => ?_, fun c18 => ?_⟩
  · have hm : i < more := of_decide_eq_true c16
    have h64 : (((p.l ++ List.replicate k exitI).length : Nat) : Int) < 64 := of_decide_eq_true c17
    rw [hlen] at h64
    have hmi := in_i64 hmore
    rw [show opI .add .i64 i 1 = i + 1 from wrI (by omega) (by omega)]
    exact ⟨⟨i + 1, k + 1, by rw [List.replicate_succ', ← List.append_assoc]; rfl, by omega, .inl (by omega)⟩, by show (more - (i + 1)).toNat < (more - i).toNat; omega⟩
  · exact absurd (of_decide_eq_false c18) (by have := of_decide_eq_true c17; omega)
  refine ⟨?_, ?_⟩
  · exact ⟨⟨by rw [hlen]; rcases hk with h | h; exact Nat.le_trans h (by decide); rw [h]; exact hpl, hcx.len⟩, han.len⟩
  intro e; simp only [mrun_behind hp.2.len he hk] at e; (try simp only [e, Ins.eta, Prog.eta, insAt_mk, Mem.eta, Mach.eta, -eq_self]); clear e
  refine ⟨fun c19 => ?_, fun c19 => ?_⟩
  intro e; (try simp only [e, Ins.eta, Prog.eta, insAt_mk, Mem.eta, Mach.eta, -eq_self]); clear e
  refine ⟨fun c20 => ?_, fun c20 => ?_⟩
  intro e; (try simp only [e, Ins.eta, Prog.eta, insAt_mk, Mem.eta, Mach.eta, -eq_self]); clear e
  · rfl
  · exact Bool.noConfusion ((esame_refl (mrun p cx an fu).1).symm.trans c20)
  · exact absurd he (neI c19)
  refine ⟨?_, ?_⟩
  · exact ⟨⟨by rw [hlen]; rcases hk with h | h; exact Nat.le_trans h (by decide); rw [h]; exact hpl, hcx.len⟩, han.len⟩
  intro e; simp only [mrun_behind hp.2.len he hk] at e; (try simp only [e, Ins.eta, Prog.eta, insAt_mk, Mem.eta, Mach.eta, -eq_self]); clear e
  refine ⟨fun c21 => ?_, fun c21 => ?_⟩
  intro e; (try simp only [e, Ins.eta, Prog.eta, insAt_mk, Mem.eta, Mach.eta, -eq_self]); clear e
  refine ⟨fun c22 => ?_, fun c22 => ?_⟩
  intro e; (try simp only [e, Ins.eta, Prog.eta, insAt_mk, Mem.eta, Mach.eta, -eq_self]); clear e
  · rfl
  · exact Bool.noConfusion ((esame_refl (mrun p cx an fu).1).symm.trans c22)
  · exact absurd he (neI c21)
  · exact absurd (of_decide_eq_false c15) (by have := of_decide_eq_false c0; omega)
  intro e; (try simp only [e, Ins.eta, Prog.eta, insAt_mk, Mem.eta, Mach.eta, -eq_self]); clear e
  · rfl
theorem sC_lbehind (xs : List Dt) (vals : List Value) (w : World) (hw : shRel w [.agg kProg, .one (.sl [some .u8] 5), .one (.sl [some .u64] 30), .one (.int .i64), .one (.int .i64)] xs vals) : Calls Try.prog 4 vals.toArray w fun e w' => ∃ v, e = .returned v ∧ RetOk [.one .bool] false w w' (sF_lbehind xs) v :=
  (fun_calls (by kernel_rfl) tysok_MoG (smc (sK_mrun rfl rfl) (smc (sK_lwakes rfl) (smc (sK_esame rfl) sm0))) Try.func4 (fnc Try.func9 fn0) sR_lbehind (pre := fun _ => True) (fun x0 gx0 x1 gx1 x2 gx2 x3 gx3 x4 gx4 x5 gx5 hp ρ g => sX_lbehind ⟨x0, x1⟩ ⟨gx0, gx1⟩ x2 gx2 x3 gx3 x4 gx4 x5 gx5 ρ g) xs vals w hw trivial).2
set_option maxRecDepth 100000 in
set_option maxHeartbeats 8000000 in
theorem law_ModelBehind {H : Type} {enc : TypeId × Value → H} {W : World} {r : Reach} {b0 : Nat} (v0 : Value) (k0 : Value.okWide Try.prog W r b0 24 v0) (d0 : DataW H) (p0 : List MemPlace) (h0 : DataW.Trod enc Try.prog W 0 (fun _ => true) true 24 v0 d0 p0) (_ : ∀ x ∈ p0, x.block < W.heap.size) (v1 : Value) (k1 : Value.okWide Try.prog W r b0 25 v1) (d1 : DataW H) (p1 : List MemPlace) (h1 : DataW.Trod enc Try.prog W 0 (fun _ => true) true 25 v1 d1 p1) (_ : ∀ x ∈ p1, x.block < W.heap.size) (v2 : Value) (k2 : Value.okWide Try.prog W r b0 26 v2) (d2 : DataW H) (p2 : List MemPlace) (h2 : DataW.Trod enc Try.prog W 0 (fun _ => true) true 26 v2 d2 p2) (_ : ∀ x ∈ p2, x.block < W.heap.size) (a3 : Int) (w3 : (Lit.int .i64 a3).wf = true) (a4 : Int) (w4 : (Lit.int .i64 a4).wf = true) :
    Calls Try.prog 4 #[v0, v1, v2, .int .i64 a3, .int .i64 a4] W fun e W' => e = .returned (.bool true) ∧ Below W.heap.size W W' := by
  obtain ⟨a0, q0, s0, rfl, w0, n0, m0, o0, l0⟩ := Prog.of_arg k0 h0
  obtain ⟨q1, s1, rfl, n1, m1, o1, l1⟩ := sl_of_arg rwU8 (by decide) Try.underlying25 k1 h1
  obtain ⟨q2, s2, rfl, n2, m2, o2, l2⟩ := sl_of_arg rwU64 (by decide) Try.underlying26 k2 h2
  refine (sC_lbehind (.z a0 :: ( .l q0 :: ( .l q1 :: ( .l q2 :: ( .z a3 :: ( .z a4 :: ([]))))))) _ W ⟨_, _, _, rfl, ⟨_, _, _, rfl, ⟨_, rfl, rfl, w0⟩, ⟨_, _, _, rfl, ⟨_, _, rfl, rfl, n0, m0, o0, l0⟩, ⟨rfl, rfl⟩⟩⟩, ⟨_, _, _, rfl, ⟨_, _, rfl, rfl, n1, m1, o1, l1⟩, ⟨_, _, _, rfl, ⟨_, _, rfl, rfl, n2, m2, o2, l2⟩, ⟨_, _, _, rfl, ⟨_, rfl, rfl, (inK_of_wf w3)⟩, ⟨_, _, _, rfl, ⟨_, rfl, rfl, (inK_of_wf w4)⟩, ⟨rfl, rfl⟩⟩⟩⟩⟩⟩).mono fun e W' ⟨v, he, hr⟩ => ?_
  have hv : v = .bool true := RetOk.says hr
  rw [he, hv]
  exact ⟨rfl, hr.ext⟩
end Go.Proofs.Ytghiofgomcihcaa

