/- Contract of latheref11.Reads. -/
import Derived.Test.YtmkaphfdgdkaoaaLiK
import Derived.Test.YtmkaphfdgdkaoaaProg
import Derived.Laws.Externs
set_option linter.unusedVariables false
set_option linter.unusedSimpArgs false
namespace Go.Proofs.Ytmkaphfdgdkaoaa
open Go.RowKit Go.ChangeShapes Go.WideShapes

def tys_LiM : List (Nat × TI) := [(3, ⟨false, 1, [.int .i64 (.lit 0)], [], none, some .i64, false, false, none, 8, false, none, false⟩),
 (4, ⟨false, 1, [.bool (.tt false)], [], none, none, false, true, none, 1, false, none, false⟩),
 (31, ⟨false, 1, [.int .i8 (.lit 0)], [], none, some .i8, false, false, none, 1, false, none, false⟩),
 (33, ⟨true, 9, [.int .i8 (.lit 0), .int .i8 (.lit 0), .int .i8 (.lit 0), .int .i8 (.lit 0), .bool (.tt false), .int .i8 (.lit 0), .int .i8 (.lit 0), .int .i64 (.lit 0), .int .i64 (.lit 0)], [(0, 31), (1, 31), (2, 31), (3, 31), (4, 4), (5, 31), (6, 31), (7, 3), (8, 3)], none, none, true, false, none, 24, false, none, false⟩),
 (73, ⟨false, 1, [.int .u64 (.lit 0)], [], none, some .u64, false, false, none, 8, false, none, false⟩)]
set_option maxRecDepth 100000 in
theorem tysck_LiM : (tys_LiM.all fun p => ckTI Try.prog p.1 p.2) = true := by kernel_rfl
theorem tyseq_LiM : (tys_LiM.all fun p => !p.2.eqok || ((Nat.beq p.1 33 && kindsC p.2.zero z_Ins))) = true := by kernel_rfl
theorem tyskn_LiM : (tys_LiM.all fun p => !p.2.keyok) = true := by kernel_rfl
theorem tysok_LiM : ∀ t i, (t, i) ∈ tys_LiM → TIok Try.prog t i := by
  intro t i h
  refine TIok_of (all_at (f := ckTI Try.prog) tysck_LiM h) (fun he => ?_) (fun he => ?_) (fun he => ?_)
  · have h1 := List.all_eq_true.1 tyseq_LiM (t, i) h
    simp only [he, Bool.not_true, Bool.false_or, Bool.or_eq_true, Bool.and_eq_true] at h1
    have hs := h1.2
    obtain rfl := Nat.eq_of_beq_eq_true h1.1
    exact fun vs us hv hu => eq_Ins vs us (kindsV_of hs hv) (kindsV_of hs hu)
  · have h1 := List.all_eq_true.1 tyseq_LiM (t, i) h
    simp only [he, Bool.not_true, Bool.false_or, Bool.or_eq_true, Bool.and_eq_true] at h1
    have hs := h1.2
    obtain rfl := Nat.eq_of_beq_eq_true h1.1
    exact grd_Ins
  · have h1 := List.all_eq_true.1 tyskn_LiM (t, i) h
    simp [he] at h1
def sM_jrd (key : Nat) : Sm := ⟨52, key, [.agg kIns], [.one (.int .i64)], false⟩
def sV_jrd (x : Ins) : List Dt := [.z (vrd x)]
def sF_jrd : List Dt → List Dt
  | [.z x0, .z x1, .z x2, .z x3, .z x4, .z x5, .z x6, .z x7, .z x8] => sV_jrd ⟨x0, x1, x2, x3, (x4 == 1), x5, x6, x7, x8⟩
  | _ => []
def sT_jrd : Tr :=
(.call 0 ([.bool]) (.vs 0 4 (.consb (.bvar 4) (.vs 5 4 .nil))) 9
(.br (.bvar 9)
(.br (.eq (.var 0) (.lit 0))
(.br (.eq (.var 1) (.lit 11))
(.br (.bvar 4)
(.call 2 ([.int .i64]) (.cons (.var 6) .nil) 10
(.leaf (.cons (.bin .or .i64 (.lit 0) (.var 10)) .nil)))
(.leaf (.cons (.lit 0) .nil)))
(.call 2 ([.int .i64]) (.cons (.var 5) .nil) 10
(.br (.bvar 4)
(.call 2 ([.int .i64]) (.cons (.var 6) .nil) 11
(.leaf (.cons (.bin .or .i64 (.var 10) (.var 11)) .nil)))
(.leaf (.cons (.var 10) .nil)))))
(.br (.eq (.var 0) (.lit 1))
(.call 2 ([.int .i64]) (.cons (.var 6) .nil) 10
(.leaf (.cons (.var 10) .nil)))
(.br (.eq (.var 0) (.lit 2))
(.call 2 ([.int .i64]) (.cons (.var 5) .nil) 10
(.call 2 ([.int .i64]) (.cons (.var 6) .nil) 11
(.leaf (.cons (.bin .or .i64 (.var 10) (.var 11)) .nil))))
(.br (.eq (.var 0) (.lit 3))
(.call 2 ([.int .i64]) (.cons (.var 5) .nil) 10
(.br (.bvar 4)
(.call 2 ([.int .i64]) (.cons (.var 6) .nil) 11
(.leaf (.cons (.bin .or .i64 (.var 10) (.var 11)) .nil)))
(.leaf (.cons (.var 10) .nil))))
(.br (.eq (.var 0) (.lit 5))
(.loop 0 10 [.int .i64, .int .i64] (.cons (.lit 1) (.cons (.lit 0) .nil))
(.call 1 ([.int .i64]) (.cons (.var 8) .nil) 12
(.br (.lt (.var 12) (.var 10))
(.leaf (.cons (.var 11) .nil))
(.next 0 (.cons (.bin .add .i64 (.var 10) (.lit 1)) (.cons (.bin .or .i64 (.var 11) (.bin .shl .i64 (.lit 1) (.conv .u64 (.var 10)))) .nil))))))
(.br (.eq (.var 0) (.lit 6))
(.leaf (.cons (.lit 1) .nil))
(.leaf (.cons (.lit 0) .nil))))))))
(.leaf (.cons (.lit 0) .nil))))
def sP_jrd : Spec := ⟨fun k => match k with | 0 => sF_jmay | 1 => sF_jargs | 2 => sF_jbit | _ => fun _ => [], fun k => match k with | _ => fun _ => True⟩
set_option maxRecDepth 100000 in
theorem sR_jrd : treeIs tys_LiM [sM_jmay 0, sM_jargs 1, sM_jbit 2] [] [(20, [.tmpI 4 .i64, .tmpI 3 .i64, .top 53, .top 54, .top 55, .top 56, .top 57, .top 60, .top 61, .top 62, .top 63, .top 64, .top 58, .top 59])] [] 200 Try.f52 [.agg kIns] [.one (.int .i64)] false [.int .i8, .int .i8, .int .i8, .int .i8, .bool, .int .i8, .int .i8, .int .i64, .int .i64] sT_jrd := ⟨by kernel_rfl, by kernel_rfl, by kernel_rfl⟩
set_option maxRecDepth 100000 in
set_option maxHeartbeats 8000000 in
theorem sX_jrd (x : Ins) (hx : Ins.ok x) (ρ : Env) (g : varsD ρ 0 [.int .i8, .int .i8, .int .i8, .int .i8, .bool, .int .i8, .int .i8, .int .i64, .int .i64] = [.z x.k, .z x.op, .z x.w, .z x.sz, .z (b2i x.br), .z x.d, .z x.s, .z x.off, .z x.imm]) : sT_jrd.asks sP_jrd (fun ρ e => e.D ρ = sF_jrd [.z x.k, .z x.op, .z x.w, .z x.sz, .z (b2i x.br), .z x.d, .z x.s, .z x.off, .z x.imm]) ρ fun _ _ => False := by
  have keepg := g
  simp only [varsD, varD, List.cons.injEq, Dt.z.injEq, Dt.l.injEq, b2i_eq_iff, Nat.reduceAdd, and_true] at g
  simp only [sT_jrd, sP_jrd, sF_jmay, sF_jargs, sF_jbit, sV_jmay, sV_jargs, sV_jbit, sF_jrd, sV_jrd, Tr.asks, upd_same, okDs, okD, eqs, E.I, E.B, E.L, E.R, E.D, E.vs, dI, dB, dL, varD, varsD, List.getElem?_cons_zero, List.getElem?_cons_succ, List.cons_append, List.nil_append, Nat.zero_add, Nat.add_zero, Nat.reduceAdd, and_true, true_and, b2i_one, -eq_self, Ins.eta, Prog.eta, insAt_mk, g]
  intro e; (try simp only [e, Ins.eta, Prog.eta, insAt_mk, -eq_self]); clear e
  refine ⟨fun c0 => ?_, fun c0 => ?_⟩
  refine ⟨fun c1 => ?_, fun c1 => ?_⟩
  refine ⟨fun c2 => ?_, fun c2 => ?_⟩
  refine ⟨fun c3 => ?_, fun c3 => ?_⟩
  intro e; (try simp only [e, Ins.eta, Prog.eta, insAt_mk, -eq_self]); clear e
  · (have q := fun h => imay_d (x := x) h; have z := bit1_or; have z2 := bit1_or2; unfold vrd; simp_all [jbit_eq])
  · (have q := fun h => imay_d (x := x) h; have z := bit1_or; have z2 := bit1_or2; unfold vrd; simp_all [jbit_eq])
  intro e; (try simp only [e, Ins.eta, Prog.eta, insAt_mk, -eq_self]); clear e
  refine ⟨fun c4 => ?_, fun c4 => ?_⟩
  intro e; (try simp only [e, Ins.eta, Prog.eta, insAt_mk, -eq_self]); clear e
  · (have q := fun h => imay_d (x := x) h; have z := bit1_or; have z2 := bit1_or2; unfold vrd; simp_all [jbit_eq])
  · (have q := fun h => imay_d (x := x) h; have z := bit1_or; have z2 := bit1_or2; unfold vrd; simp_all [jbit_eq])
  refine ⟨fun c5 => ?_, fun c5 => ?_⟩
  intro e; (try simp only [e, Ins.eta, Prog.eta, insAt_mk, -eq_self]); clear e
  · (have q := fun h => imay_d (x := x) h; have z := bit1_or; have z2 := bit1_or2; unfold vrd; simp_all [jbit_eq])
  refine ⟨fun c6 => ?_, fun c6 => ?_⟩
  intro e; (try simp only [e, Ins.eta, Prog.eta, insAt_mk, -eq_self]); clear e
  intro e; (try simp only [e, Ins.eta, Prog.eta, insAt_mk, -eq_self]); clear e
  · (have q := fun h => imay_d (x := x) h; have z := bit1_or; have z2 := bit1_or2; unfold vrd; simp_all [jbit_eq])
  refine ⟨fun c7 => ?_, fun c7 => ?_⟩
  intro e; (try simp only [e, Ins.eta, Prog.eta, insAt_mk, -eq_self]); clear e
  refine ⟨fun c8 => ?_, fun c8 => ?_⟩
  intro e; (try simp only [e, Ins.eta, Prog.eta, insAt_mk, -eq_self]); clear e
  · (have q := fun h => imay_d (x := x) h; have z := bit1_or; have z2 := bit1_or2; unfold vrd; simp_all [jbit_eq])
  · (have q := fun h => imay_d (x := x) h; have z := bit1_or; have z2 := bit1_or2; unfold vrd; simp_all [jbit_eq])
  refine ⟨fun c9 => ?_, fun c9 => ?_⟩
  have hA := iargs_bd x.imm
  refine ⟨fun ds => ∃ k : Nat, ds = [.z (k : Int), .z ((2 ^ k - 2 : Nat) : Int)] ∧ 1 ≤ k ∧ (k : Int) ≤ iargs x.imm + 1, fun ds => 7 - (dI ds 0).toNat, ⟨1, rfl, by omega, by omega⟩, ?_⟩
  intro ρ1 ha1 _ hi1
  obtain ⟨k, hds, h1, h2⟩ := hi1
  simp only [List.cons.injEq, Dt.z.injEq, Dt.l.injEq, b2i_eq_iff, and_true] at hds
  obtain ⟨k1_i10, k1_i11⟩ := hds
  have k1_i8 : ρ1.i 8 = x.imm := (ha1 8 (by decide)).1.symm.trans (by simp only [g])
  simp only [k1_i8, k1_i10, k1_i11, -eq_self]
  intro e; (try simp only [e, Ins.eta, Prog.eta, insAt_mk, -eq_self]); clear e
  refine ⟨fun c10 => ?_, fun c10 => ?_⟩
  · have q := of_decide_eq_true c10
    have hk : k = 1 ∨ k = 2 ∨ k = 3 ∨ k = 4 ∨ k = 5 ∨ k = 6 := by omega
    have hk2 : iargs x.imm = (k : Int) - 1 := by omega
    have h5 := eqI c9
    unfold vrd
    rw [if_pos c0, hk2]
    simp only [h5]
    rcases hk with rfl | rfl | rfl | rfl | rfl | rfl <;> rfl
  · have q := of_decide_eq_false c10
    have hk : k = 1 ∨ k = 2 ∨ k = 3 ∨ k = 4 ∨ k = 5 := by omega
    rcases hk with rfl | rfl | rfl | rfl | rfl
    · exact ⟨⟨2, rfl, by omega, by omega⟩, by decide⟩
    · exact ⟨⟨3, rfl, by omega, by omega⟩, by decide⟩
    · exact ⟨⟨4, rfl, by omega, by omega⟩, by decide⟩
    · exact ⟨⟨5, rfl, by omega, by omega⟩, by decide⟩
    · exact ⟨⟨6, rfl, by omega, by omega⟩, by decide⟩
  refine ⟨fun c11 => ?_, fun c11 => ?_⟩
  · (have q := fun h => imay_d (x := x) h; have z := bit1_or; have z2 := bit1_or2; unfold vrd; simp_all [jbit_eq])
  · (have q := fun h => imay_d (x := x) h; have z := bit1_or; have z2 := bit1_or2; unfold vrd; simp_all [jbit_eq])
  · (have q := fun h => imay_d (x := x) h; have z := bit1_or; have z2 := bit1_or2; unfold vrd; simp_all [jbit_eq])
theorem sK_jrd {sp : Spec} {key : Nat} (hF : sp.F key = sF_jrd) (hP : sp.pre key = fun _ => True := by rfl) : SmOk Try.prog sp (sM_jrd key) :=
  fun_ok (s := sM_jrd key) hF hP (by kernel_rfl) tysok_LiM (smc (sK_jmay rfl) (smc (sK_jargs rfl) (smc (sK_jbit rfl) sm0))) Try.func52 fn0 sR_jrd (.inl rfl) (fun x0 gx0 x1 gx1 x2 gx2 x3 gx3 x4 x5 gx5 x6 gx6 x7 gx7 x8 gx8 hp ρ g => sX_jrd ⟨x0, x1, x2, x3, x4, x5, x6, x7, x8⟩ ⟨gx0, gx1, gx2, gx3, gx5, gx6, gx7, gx8⟩ ρ g)
end Go.Proofs.Ytmkaphfdgdkaoaa
