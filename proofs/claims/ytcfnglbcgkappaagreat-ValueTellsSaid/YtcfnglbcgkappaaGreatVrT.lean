/- The law ValueTells, by the symbolic run. -/
import Derived.Test.YtcfnglbcgkappaaGreatVrB
import Derived.Test.YtcfnglbcgkappaaGreatVaC
import Derived.Test.YtcfnglbcgkappaaGreatVaQ
import Derived.Test.YtcfnglbcgkappaaGreatSyZc
import Derived.Test.YtcfnglbcgkappaaGreatProg
import Derived.Laws.Externs
set_option linter.unusedVariables false
set_option linter.unusedSimpArgs false
namespace Go.Proofs.YtcfnglbcgkappaaGreat
open Go.RowKit Go.ChangeShapes Go.WideShapes

def z_Sc : List C := [.int .u64 (.lit 0), .int .u64 (.lit 0), .int .i64 (.lit 0), .int .i64 (.lit 0), .int .u64 (.lit 0), .int .u64 (.lit 0)]
theorem grd_Sc : Tryz.prog.eqGuardType Tryz.prog.depth 29 = false := by kernel_rfl
theorem cells29_Sc : Tryz.prog.cellsOf 29 = 6 := by kernel_rfl
theorem cells25_Sc : Tryz.prog.cellsOf 25 = 4 := by kernel_rfl
theorem cells27_Sc : Tryz.prog.cellsOf 27 = 2 := by kernel_rfl
theorem cells23_Sc : Tryz.prog.cellsOf 23 = 1 := by kernel_rfl
theorem cells2_Sc : Tryz.prog.cellsOf 2 = 1 := by kernel_rfl
set_option maxRecDepth 100000 in
theorem kl_Sc (vs : List Value) (hv : kindsV vs z_Sc) : Tryz.prog.keyLits 6 29 vs = some (litsOf vs) := by
  obtain ⟨x0, _, rfl, g0, hv⟩ := kindsV_int hv
  obtain ⟨x1, _, rfl, g1, hv⟩ := kindsV_int hv
  obtain ⟨x2, _, rfl, g2, hv⟩ := kindsV_int hv
  obtain ⟨x3, _, rfl, g3, hv⟩ := kindsV_int hv
  obtain ⟨x4, _, rfl, g4, hv⟩ := kindsV_int hv
  obtain ⟨x5, _, rfl, g5, hv⟩ := kindsV_int hv
  obtain rfl := kindsV_nil hv
  simp [Program.keyLits, Tryz.underlying29, Tryz.underlying25, Tryz.underlying27, Tryz.underlying23, Tryz.underlying2, cells29_Sc, cells25_Sc, cells27_Sc, cells23_Sc, cells2_Sc, inK_wf, litsOf, g0, g1, g2, g3, g4, g5]
  split
  · simp only [Option.bind_some, Function.comp_apply]
    split
    · rfl
    · rename_i h; exact absurd (by decide) h
  · rename_i h; exact absurd (by decide) h
theorem fm_Sc (vs : List Value) (hv : kindsV vs z_Sc) : (Value.agg vs.toArray).formed Tryz.prog 29 = true := by
  obtain ⟨x0, _, rfl, g0, hv⟩ := kindsV_int hv
  obtain ⟨x1, _, rfl, g1, hv⟩ := kindsV_int hv
  obtain ⟨x2, _, rfl, g2, hv⟩ := kindsV_int hv
  obtain ⟨x3, _, rfl, g3, hv⟩ := kindsV_int hv
  obtain ⟨x4, _, rfl, g4, hv⟩ := kindsV_int hv
  obtain ⟨x5, _, rfl, g5, hv⟩ := kindsV_int hv
  obtain rfl := kindsV_nil hv
  kernel_rfl
theorem eq_Sc (vs us : List Value) (hv : kindsV vs z_Sc) (hu : kindsV us z_Sc) (w : World) : (Op.equal 29 (.agg vs.toArray) (.agg us.toArray)).run Tryz.prog w = .ok (eqVs vs us) w :=
  eq_of_keys (by kernel_rfl) fm_Sc 6 kl_Sc vs us hv hu w
def tys_VrT : List (Nat × TI) := [(2, ⟨false, 1, [.int .i64 (.lit 0)], [], none, some .i64, false, false, none, 8, false⟩),
 (4, ⟨false, 1, [.bool (.tt false)], [], none, none, false, true, none, 1, false⟩),
 (23, ⟨false, 1, [.int .u64 (.lit 0)], [], none, some .u64, false, false, none, 8, false⟩),
 (25, ⟨true, 4, [.int .u64 (.lit 0), .int .u64 (.lit 0), .int .i64 (.lit 0), .int .i64 (.lit 0)], [(0, 23), (1, 23), (2, 2), (3, 2)], none, none, false, false, none, 32, false⟩),
 (27, ⟨true, 2, [.int .u64 (.lit 0), .int .u64 (.lit 0)], [(0, 23), (1, 23)], none, none, false, false, none, 16, false⟩),
 (29, ⟨true, 6, [.int .u64 (.lit 0), .int .u64 (.lit 0), .int .i64 (.lit 0), .int .i64 (.lit 0), .int .u64 (.lit 0), .int .u64 (.lit 0)], [(0, 25), (4, 27)], none, none, true, false, none, 48, false⟩)]
set_option maxRecDepth 100000 in
theorem tysck_VrT : (tys_VrT.all fun p => ckTI Tryz.prog p.1 p.2) = true := by kernel_rfl
theorem tyseq_VrT : (tys_VrT.all fun p => !p.2.eqok || ((Nat.beq p.1 29 && kindsC p.2.zero z_Sc))) = true := by kernel_rfl
theorem tysok_VrT : ∀ t i, (t, i) ∈ tys_VrT → TIok Tryz.prog t i := by
  intro t i h
  have h1 := List.all_eq_true.1 tyseq_VrT (t, i) h
  have h2 : i.eqok = true → (t = 29 ∧ kindsC i.zero z_Sc = true) := by
    intro he
    simp only [he, Bool.not_true, Bool.false_or, Bool.or_eq_true, Bool.and_eq_true] at h1
    exact ⟨Nat.eq_of_beq_eq_true h1.1, h1.2⟩
  refine TIok_of (all_at (f := ckTI Tryz.prog) tysck_VrT h) (fun he => ?_) (fun he => ?_)
  · rcases h2 he with ⟨rfl, hs⟩
    · exact fun vs us hv hu => eq_Sc vs us (kindsV_of hs hv) (kindsV_of hs hu)
  · rcases h2 he with ⟨rfl, hs⟩
    · exact grd_Sc
def sM_vtells (key : Nat) : Sm := ⟨3, key, [.one (.int .i8), .one (.int .i8), .one (.int .i8), .agg kSc, .agg kSc, .one (.int .u64), .one (.int .i64)], [.one .bool], false⟩
def sV_vtells (op : Int) (cc : Int) (l : Int) (a : Sc) (b : Sc) (v : Int) (q : Int) : List Dt := [.z (b2i true)]
def sF_vtells : List Dt → List Dt
  | [.z x0, .z x1, .z x2, .z x3, .z x4, .z x5, .z x6, .z x7, .z x8, .z x9, .z x10, .z x11, .z x12, .z x13, .z x14, .z x15, .z x16] => sV_vtells x0 x1 x2 ⟨x3, x4, x5, x6, x7, x8⟩ ⟨x9, x10, x11, x12, x13, x14⟩ x15 x16
  | _ => []
def sT_vtells : Tr :=
(.call 0 (kSc ++ [.bool]) (.vs 3 6 .nil) 17
(.call 1 (kSc ++ [.bool]) (.vs 3 6 .nil) 24
(.call 2 (kSc ++ [.bool]) (.cons (.var 1) (.vs 3 12 .nil)) 31
(.call 3 (kSc ++ [.bool]) (.cons (.var 1) (.vs 3 12 .nil)) 38
(.call 4 ([.int .u64] ++ [.bool]) (.vs 3 6 .nil) 45
(.call 5 ([.int .u64] ++ [.bool]) (.vs 3 6 .nil) 47
(.br (.eq (.var 17) (.var 24))
(.br (.eq (.var 18) (.var 25))
(.br (.eq (.var 19) (.var 26))
(.br (.eq (.var 20) (.var 27))
(.br (.eq (.var 21) (.var 28))
(.br (.eq (.var 22) (.var 29))
(.br (.beq (.bvar 23) (.bvar 30))
(.br (.eq (.var 31) (.var 38))
(.br (.eq (.var 32) (.var 39))
(.br (.eq (.var 33) (.var 40))
(.br (.eq (.var 34) (.var 41))
(.br (.eq (.var 35) (.var 42))
(.br (.eq (.var 36) (.var 43))
(.br (.beq (.bvar 37) (.bvar 44))
(.br (.eq (.var 45) (.var 47))
(.br (.beq (.bvar 46) (.bvar 48))
(.call 6 ([.bool]) (.vs 3 6 .nil) 49
(.call 7 ([.bool]) (.vs 3 6 .nil) 50
(.br (.beq (.bvar 49) (.bvar 50))
(.call 8 (kSc) .nil 51
(.call 9 (kSc) .nil 57
(.br (.eq (.var 51) (.var 57))
(.br (.eq (.var 52) (.var 58))
(.br (.eq (.var 53) (.var 59))
(.br (.eq (.var 54) (.var 60))
(.br (.eq (.var 55) (.var 61))
(.br (.eq (.var 56) (.var 62))
(.call 10 (kSc) (.cons (.var 15) .nil) 63
(.call 11 (kSc) (.cons (.var 15) .nil) 69
(.br (.eq (.var 63) (.var 69))
(.br (.eq (.var 64) (.var 70))
(.br (.eq (.var 65) (.var 71))
(.br (.eq (.var 66) (.var 72))
(.br (.eq (.var 67) (.var 73))
(.br (.eq (.var 68) (.var 74))
(.call 12 (kSc) (.cons (.var 16) .nil) 75
(.call 13 (kSc) (.cons (.var 16) .nil) 81
(.br (.eq (.var 75) (.var 81))
(.br (.eq (.var 76) (.var 82))
(.br (.eq (.var 77) (.var 83))
(.br (.eq (.var 78) (.var 84))
(.br (.eq (.var 79) (.var 85))
(.br (.eq (.var 80) (.var 86))
(.call 14 ([.bool]) (.vs 3 6 (.cons (.var 15) .nil)) 87
(.call 15 ([.bool]) (.vs 3 6 (.cons (.var 15) .nil)) 88
(.br (.beq (.bvar 87) (.bvar 88))
(.call 16 (kSc) (.vs 3 12 .nil) 89
(.call 17 (kSc) (.vs 3 12 .nil) 95
(.br (.eq (.var 89) (.var 95))
(.br (.eq (.var 90) (.var 96))
(.br (.eq (.var 91) (.var 97))
(.br (.eq (.var 92) (.var 98))
(.br (.eq (.var 93) (.var 99))
(.br (.eq (.var 94) (.var 100))
(.call 18 ([.bool]) (.vs 3 12 .nil) 101
(.call 19 ([.bool]) (.vs 3 12 .nil) 102
(.br (.beq (.bvar 101) (.bvar 102))
(.call 20 (kSc) (.cons (.var 0) (.vs 2 13 .nil)) 103
(.call 21 (kSc) (.cons (.var 0) (.vs 2 13 .nil)) 109
(.br (.eq (.var 103) (.var 109))
(.br (.eq (.var 104) (.var 110))
(.br (.eq (.var 105) (.var 111))
(.br (.eq (.var 106) (.var 112))
(.br (.eq (.var 107) (.var 113))
(.br (.eq (.var 108) (.var 114))
(.call 22 (kSc) (.vs 3 12 .nil) 115
(.call 23 (kSc) (.vs 3 12 .nil) 121
(.br (.eq (.var 115) (.var 121))
(.br (.eq (.var 116) (.var 122))
(.br (.eq (.var 117) (.var 123))
(.br (.eq (.var 118) (.var 124))
(.br (.eq (.var 119) (.var 125))
(.br (.eq (.var 120) (.var 126))
(.call 24 ([.bool]) .nil 127
(.leaf (.consb (.bvar 127) .nil)))
(.leaf (.consb (.tt false) .nil)))
(.leaf (.consb (.tt false) .nil)))
(.leaf (.consb (.tt false) .nil)))
(.leaf (.consb (.tt false) .nil)))
(.leaf (.consb (.tt false) .nil)))
(.leaf (.consb (.tt false) .nil)))))
(.leaf (.consb (.tt false) .nil)))
(.leaf (.consb (.tt false) .nil)))
(.leaf (.consb (.tt false) .nil)))
(.leaf (.consb (.tt false) .nil)))
(.leaf (.consb (.tt false) .nil)))
(.leaf (.consb (.tt false) .nil)))))
(.leaf (.consb (.tt false) .nil)))))
(.leaf (.consb (.tt false) .nil)))
(.leaf (.consb (.tt false) .nil)))
(.leaf (.consb (.tt false) .nil)))
(.leaf (.consb (.tt false) .nil)))
(.leaf (.consb (.tt false) .nil)))
(.leaf (.consb (.tt false) .nil)))))
(.leaf (.consb (.tt false) .nil)))))
(.leaf (.consb (.tt false) .nil)))
(.leaf (.consb (.tt false) .nil)))
(.leaf (.consb (.tt false) .nil)))
(.leaf (.consb (.tt false) .nil)))
(.leaf (.consb (.tt false) .nil)))
(.leaf (.consb (.tt false) .nil)))))
(.leaf (.consb (.tt false) .nil)))
(.leaf (.consb (.tt false) .nil)))
(.leaf (.consb (.tt false) .nil)))
(.leaf (.consb (.tt false) .nil)))
(.leaf (.consb (.tt false) .nil)))
(.leaf (.consb (.tt false) .nil)))))
(.leaf (.consb (.tt false) .nil)))
(.leaf (.consb (.tt false) .nil)))
(.leaf (.consb (.tt false) .nil)))
(.leaf (.consb (.tt false) .nil)))
(.leaf (.consb (.tt false) .nil)))
(.leaf (.consb (.tt false) .nil)))))
(.leaf (.consb (.tt false) .nil)))))
(.leaf (.consb (.tt false) .nil)))
(.leaf (.consb (.tt false) .nil)))
(.leaf (.consb (.tt false) .nil)))
(.leaf (.consb (.tt false) .nil)))
(.leaf (.consb (.tt false) .nil)))
(.leaf (.consb (.tt false) .nil)))
(.leaf (.consb (.tt false) .nil)))
(.leaf (.consb (.tt false) .nil)))
(.leaf (.consb (.tt false) .nil)))
(.leaf (.consb (.tt false) .nil)))
(.leaf (.consb (.tt false) .nil)))
(.leaf (.consb (.tt false) .nil)))
(.leaf (.consb (.tt false) .nil)))
(.leaf (.consb (.tt false) .nil)))
(.leaf (.consb (.tt false) .nil)))
(.leaf (.consb (.tt false) .nil)))))))))
def sP_vtells : Spec := ⟨fun k => match k with | 0 => sF_vnar | 1 => sF_wnar | 2 => sF_vgiv | 3 => sF_wgiv | 4 => sF_vsingle | 5 => sF_wsingle | 6 => sF_vmay | 7 => sF_wmay | 8 => sF_vall | 9 => sF_wall | 10 => sF_vone | 11 => sF_wone | 12 => sF_vby | 13 => sF_wby | 14 => sF_vhas | 15 => sF_whas | 16 => sF_vjoin | 17 => sF_wjoin | 18 => sF_vin | 19 => sF_win | 20 => sF_vdo | 21 => sF_wdo | 22 => sF_vwid | 23 => sF_wwid | 24 => sF_vwakes | _ => fun _ => [], fun k => match k with | _ => fun _ => True⟩
set_option maxRecDepth 100000 in
theorem sR_vtells : treeIs tys_VrT [sM_vnar 0, sM_wnar 1, sM_vgiv 2, sM_wgiv 3, sM_vsingle 4, sM_wsingle 5, sM_vmay 6, sM_wmay 7, sM_vall 8, sM_wall 9, sM_vone 10, sM_wone 11, sM_vby 12, sM_wby 13, sM_vhas 14, sM_whas 15, sM_vjoin 16, sM_wjoin 17, sM_vin 18, sM_win 19, sM_vdo 20, sM_wdo 21, sM_vwid 22, sM_wwid 23, sM_vwakes 24] [] [] 200 Tryz.f3 [.one (.int .i8), .one (.int .i8), .one (.int .i8), .agg kSc, .agg kSc, .one (.int .u64), .one (.int .i64)] [.one .bool] false [.int .i8, .int .i8, .int .i8, .int .u64, .int .u64, .int .i64, .int .i64, .int .u64, .int .u64, .int .u64, .int .u64, .int .i64, .int .i64, .int .u64, .int .u64, .int .u64, .int .i64] sT_vtells := ⟨by kernel_rfl, by kernel_rfl, by kernel_rfl⟩
set_option maxRecDepth 100000 in
set_option maxHeartbeats 8000000 in
theorem sX_vtells (op : Int) (hop : inK .i8 op = true) (cc : Int) (hcc : inK .i8 cc = true) (l : Int) (hl : inK .i8 l = true) (a : Sc) (ha : Sc.ok a) (b : Sc) (hb : Sc.ok b) (v : Int) (hv : inK .u64 v = true) (q : Int) (hq : inK .i64 q = true) (ρ : Env) (g : varsD ρ 0 [.int .i8, .int .i8, .int .i8, .int .u64, .int .u64, .int .i64, .int .i64, .int .u64, .int .u64, .int .u64, .int .u64, .int .i64, .int .i64, .int .u64, .int .u64, .int .u64, .int .i64] = [.z op, .z cc, .z l, .z a.ul, .z a.uh, .z a.sl, .z a.sh, .z a.v, .z a.m, .z b.ul, .z b.uh, .z b.sl, .z b.sh, .z b.v, .z b.m, .z v, .z q]) : sT_vtells.asks sP_vtells (fun ρ e => e.D ρ = sF_vtells [.z op, .z cc, .z l, .z a.ul, .z a.uh, .z a.sl, .z a.sh, .z a.v, .z a.m, .z b.ul, .z b.uh, .z b.sl, .z b.sh, .z b.v, .z b.m, .z v, .z q]) ρ fun _ _ => False := by
  simp only [varsD, varD, List.cons.injEq, Dt.z.injEq, Dt.l.injEq, b2i_eq_iff, Nat.reduceAdd, and_true] at g
  simp only [sT_vtells, sP_vtells, kSc, sF_vnar, sF_wnar, sF_vgiv, sF_wgiv, sF_vsingle, sF_wsingle, sF_vmay, sF_wmay, sF_vall, sF_wall, sF_vone, sF_wone, sF_vby, sF_wby, sF_vhas, sF_whas, sF_vjoin, sF_wjoin, sF_vin, sF_win, sF_vdo, sF_wdo, sF_vwid, sF_wwid, sF_vwakes, sV_vnar, sV_wnar, sV_vgiv, sV_wgiv, sV_vsingle, sV_wsingle, sV_vmay, sV_wmay, sV_vone, sV_wone, sV_vby, sV_wby, sV_vhas, sV_whas, sV_vjoin, sV_wjoin, sV_vin, sV_win, sV_vdo, sV_wdo, sV_vwid, sV_wwid, sF_vtells, sV_vtells, Tr.asks, upd_same, okDs, okD, eqs, E.I, E.B, E.L, E.R, E.D, E.vs, dI, dB, dL, varD, varsD, List.getElem?_cons_zero, List.getElem?_cons_succ, List.cons_append, List.nil_append, Nat.zero_add, Nat.add_zero, Nat.reduceAdd, and_true, true_and, b2i_one, -eq_self, Kn.eta, Pi.eta, Pu.eta, Rg.eta, Sc.eta, Sc.eta_r, Sc.eta_k, Sc.eta_2, g]
  intro e; (try simp only [e, Kn.eta, Pi.eta, Pu.eta, Rg.eta, Sc.eta, Sc.eta_r, Sc.eta_k, Sc.eta_2, -eq_self]); clear e
  intro e; (try simp only [e, Kn.eta, Pi.eta, Pu.eta, Rg.eta, Sc.eta, Sc.eta_r, Sc.eta_k, Sc.eta_2, -eq_self]); clear e
  intro e; (try simp only [e, Kn.eta, Pi.eta, Pu.eta, Rg.eta, Sc.eta, Sc.eta_r, Sc.eta_k, Sc.eta_2, -eq_self]); clear e
  intro e; (try simp only [e, Kn.eta, Pi.eta, Pu.eta, Rg.eta, Sc.eta, Sc.eta_r, Sc.eta_k, Sc.eta_2, -eq_self]); clear e
  intro e; (try simp only [e, Kn.eta, Pi.eta, Pu.eta, Rg.eta, Sc.eta, Sc.eta_r, Sc.eta_k, Sc.eta_2, -eq_self]); clear e
  intro e; (try simp only [e, Kn.eta, Pi.eta, Pu.eta, Rg.eta, Sc.eta, Sc.eta_r, Sc.eta_k, Sc.eta_2, -eq_self]); clear e
  refine ⟨fun c0 => ?_, fun c0 => ?_⟩
  refine ⟨fun c1 => ?_, fun c1 => ?_⟩
  refine ⟨fun c2 => ?_, fun c2 => ?_⟩
  refine ⟨fun c3 => ?_, fun c3 => ?_⟩
  refine ⟨fun c4 => ?_, fun c4 => ?_⟩
  refine ⟨fun c5 => ?_, fun c5 => ?_⟩
  refine ⟨fun c6 => ?_, fun c6 => ?_⟩
  refine ⟨fun c7 => ?_, fun c7 => ?_⟩
  refine ⟨fun c8 => ?_, fun c8 => ?_⟩
  refine ⟨fun c9 => ?_, fun c9 => ?_⟩
  refine ⟨fun c10 => ?_, fun c10 => ?_⟩
  refine ⟨fun c11 => ?_, fun c11 => ?_⟩
  refine ⟨fun c12 => ?_, fun c12 => ?_⟩
  refine ⟨fun c13 => ?_, fun c13 => ?_⟩
  refine ⟨fun c14 => ?_, fun c14 => ?_⟩
  refine ⟨fun c15 => ?_, fun c15 => ?_⟩
  intro e; (try simp only [e, Kn.eta, Pi.eta, Pu.eta, Rg.eta, Sc.eta, Sc.eta_r, Sc.eta_k, Sc.eta_2, -eq_self]); clear e
  intro e; (try simp only [e, Kn.eta, Pi.eta, Pu.eta, Rg.eta, Sc.eta, Sc.eta_r, Sc.eta_k, Sc.eta_2, -eq_self]); clear e
  refine ⟨fun c16 => ?_, fun c16 => ?_⟩
  intro e; (try simp only [e, Kn.eta, Pi.eta, Pu.eta, Rg.eta, Sc.eta, Sc.eta_r, Sc.eta_k, Sc.eta_2, -eq_self]); clear e
  intro e; (try simp only [e, Kn.eta, Pi.eta, Pu.eta, Rg.eta, Sc.eta, Sc.eta_r, Sc.eta_k, Sc.eta_2, -eq_self]); clear e
  refine ⟨fun c17 => ?_, fun c17 => ?_⟩
  refine ⟨fun c18 => ?_, fun c18 => ?_⟩
  refine ⟨fun c19 => ?_, fun c19 => ?_⟩
  refine ⟨fun c20 => ?_, fun c20 => ?_⟩
  refine ⟨fun c21 => ?_, fun c21 => ?_⟩
  refine ⟨fun c22 => ?_, fun c22 => ?_⟩
  intro e; (try simp only [e, Kn.eta, Pi.eta, Pu.eta, Rg.eta, Sc.eta, Sc.eta_r, Sc.eta_k, Sc.eta_2, -eq_self]); clear e
  intro e; (try simp only [e, Kn.eta, Pi.eta, Pu.eta, Rg.eta, Sc.eta, Sc.eta_r, Sc.eta_k, Sc.eta_2, -eq_self]); clear e
  refine ⟨fun c23 => ?_, fun c23 => ?_⟩
  refine ⟨fun c24 => ?_, fun c24 => ?_⟩
  refine ⟨fun c25 => ?_, fun c25 => ?_⟩
  refine ⟨fun c26 => ?_, fun c26 => ?_⟩
  refine ⟨fun c27 => ?_, fun c27 => ?_⟩
  refine ⟨fun c28 => ?_, fun c28 => ?_⟩
  intro e; (try simp only [e, Kn.eta, Pi.eta, Pu.eta, Rg.eta, Sc.eta, Sc.eta_r, Sc.eta_k, Sc.eta_2, -eq_self]); clear e
  intro e; (try simp only [e, Kn.eta, Pi.eta, Pu.eta, Rg.eta, Sc.eta, Sc.eta_r, Sc.eta_k, Sc.eta_2, -eq_self]); clear e
  refine ⟨fun c29 => ?_, fun c29 => ?_⟩
  refine ⟨fun c30 => ?_, fun c30 => ?_⟩
  refine ⟨fun c31 => ?_, fun c31 => ?_⟩
  refine ⟨fun c32 => ?_, fun c32 => ?_⟩
  refine ⟨fun c33 => ?_, fun c33 => ?_⟩
  refine ⟨fun c34 => ?_, fun c34 => ?_⟩
  intro e; (try simp only [e, Kn.eta, Pi.eta, Pu.eta, Rg.eta, Sc.eta, Sc.eta_r, Sc.eta_k, Sc.eta_2, -eq_self]); clear e
  intro e; (try simp only [e, Kn.eta, Pi.eta, Pu.eta, Rg.eta, Sc.eta, Sc.eta_r, Sc.eta_k, Sc.eta_2, -eq_self]); clear e
  refine ⟨fun c35 => ?_, fun c35 => ?_⟩
  intro e; (try simp only [e, Kn.eta, Pi.eta, Pu.eta, Rg.eta, Sc.eta, Sc.eta_r, Sc.eta_k, Sc.eta_2, -eq_self]); clear e
  intro e; (try simp only [e, Kn.eta, Pi.eta, Pu.eta, Rg.eta, Sc.eta, Sc.eta_r, Sc.eta_k, Sc.eta_2, -eq_self]); clear e
  refine ⟨fun c36 => ?_, fun c36 => ?_⟩
  refine ⟨fun c37 => ?_, fun c37 => ?_⟩
  refine ⟨fun c38 => ?_, fun c38 => ?_⟩
  refine ⟨fun c39 => ?_, fun c39 => ?_⟩
  refine ⟨fun c40 => ?_, fun c40 => ?_⟩
  refine ⟨fun c41 => ?_, fun c41 => ?_⟩
  intro e; (try simp only [e, Kn.eta, Pi.eta, Pu.eta, Rg.eta, Sc.eta, Sc.eta_r, Sc.eta_k, Sc.eta_2, -eq_self]); clear e
  intro e; (try simp only [e, Kn.eta, Pi.eta, Pu.eta, Rg.eta, Sc.eta, Sc.eta_r, Sc.eta_k, Sc.eta_2, -eq_self]); clear e
  refine ⟨fun c42 => ?_, fun c42 => ?_⟩
  intro e; (try simp only [e, Kn.eta, Pi.eta, Pu.eta, Rg.eta, Sc.eta, Sc.eta_r, Sc.eta_k, Sc.eta_2, -eq_self]); clear e
  intro e; (try simp only [e, Kn.eta, Pi.eta, Pu.eta, Rg.eta, Sc.eta, Sc.eta_r, Sc.eta_k, Sc.eta_2, -eq_self]); clear e
  refine ⟨fun c43 => ?_, fun c43 => ?_⟩
  refine ⟨fun c44 => ?_, fun c44 => ?_⟩
  refine ⟨fun c45 => ?_, fun c45 => ?_⟩
  refine ⟨fun c46 => ?_, fun c46 => ?_⟩
  refine ⟨fun c47 => ?_, fun c47 => ?_⟩
  refine ⟨fun c48 => ?_, fun c48 => ?_⟩
  intro e; (try simp only [e, Kn.eta, Pi.eta, Pu.eta, Rg.eta, Sc.eta, Sc.eta_r, Sc.eta_k, Sc.eta_2, -eq_self]); clear e
  intro e; (try simp only [e, Kn.eta, Pi.eta, Pu.eta, Rg.eta, Sc.eta, Sc.eta_r, Sc.eta_k, Sc.eta_2, -eq_self]); clear e
  refine ⟨fun c49 => ?_, fun c49 => ?_⟩
  refine ⟨fun c50 => ?_, fun c50 => ?_⟩
  refine ⟨fun c51 => ?_, fun c51 => ?_⟩
  refine ⟨fun c52 => ?_, fun c52 => ?_⟩
  refine ⟨fun c53 => ?_, fun c53 => ?_⟩
  refine ⟨fun c54 => ?_, fun c54 => ?_⟩
  intro e; (try simp only [e, Kn.eta, Pi.eta, Pu.eta, Rg.eta, Sc.eta, Sc.eta_r, Sc.eta_k, Sc.eta_2, -eq_self]); clear e
  rfl
  exact absurd c54 (by simp)
  exact absurd c53 (by simp)
  exact absurd c52 (by simp)
  exact absurd c51 (by simp)
  exact absurd c50 (by simp)
  exact absurd c49 (by simp)
  exact absurd c48 (by simp)
  exact absurd c47 (by simp)
  exact absurd c46 (by simp)
  exact absurd c45 (by simp)
  exact absurd c44 (by simp)
  exact absurd c43 (by simp)
  exact absurd c42 (by simp)
  exact absurd c41 (by simp)
  exact absurd c40 (by simp)
  exact absurd c39 (by simp)
  exact absurd c38 (by simp)
  exact absurd c37 (by simp)
  exact absurd c36 (by simp)
  exact absurd c35 (by simp)
  exact absurd c34 (by simp)
  exact absurd c33 (by simp)
  exact absurd c32 (by simp)
  exact absurd c31 (by simp)
  exact absurd c30 (by simp)
  exact absurd c29 (by simp)
  exact absurd c28 (by simp)
  exact absurd c27 (by simp)
  exact absurd c26 (by simp)
  exact absurd c25 (by simp)
  exact absurd c24 (by simp)
  exact absurd c23 (by simp)
  exact absurd c22 (by simp)
  exact absurd c21 (by simp)
  exact absurd c20 (by simp)
  exact absurd c19 (by simp)
  exact absurd c18 (by simp)
  exact absurd c17 (by simp)
  exact absurd c16 (by simp)
  exact absurd c15 (by simp)
  exact absurd c14 (by simp)
  exact absurd c13 (by simp)
  exact absurd c12 (by simp)
  exact absurd c11 (by simp)
  exact absurd c10 (by simp)
  exact absurd c9 (by simp)
  exact absurd c8 (by simp)
  exact absurd c7 (by simp)
  exact absurd c6 (by simp)
  exact absurd c5 (by simp)
  exact absurd c4 (by simp)
  exact absurd c3 (by simp)
  exact absurd c2 (by simp)
  exact absurd c1 (by simp)
  exact absurd c0 (by simp)
theorem sC_vtells (xs : List Dt) (vals : List Value) (w : World) (hw : shRel w [.one (.int .i8), .one (.int .i8), .one (.int .i8), .agg kSc, .agg kSc, .one (.int .u64), .one (.int .i64)] xs vals) : Calls Tryz.prog 3 vals.toArray w fun e w' => ∃ v, e = .returned v ∧ RetOk [.one .bool] false w w' (sF_vtells xs) v :=
  (fun_calls (by kernel_rfl) tysok_VrT (smc (sK_vnar rfl) (smc (sK_wnar rfl) (smc (sK_vgiv rfl) (smc (sK_wgiv rfl) (smc (sK_vsingle rfl) (smc (sK_wsingle rfl) (smc (sK_vmay rfl) (smc (sK_wmay rfl) (smc (sK_vall rfl) (smc (sK_wall rfl) (smc (sK_vone rfl) (smc (sK_wone rfl) (smc (sK_vby rfl) (smc (sK_wby rfl) (smc (sK_vhas rfl) (smc (sK_whas rfl) (smc (sK_vjoin rfl) (smc (sK_wjoin rfl) (smc (sK_vin rfl) (smc (sK_win rfl) (smc (sK_vdo rfl) (smc (sK_wdo rfl) (smc (sK_vwid rfl) (smc (sK_wwid rfl) (smc (sK_vwakes rfl) sm0))))))))))))))))))))))))) Tryz.func3 sR_vtells (pre := fun _ => True) (fun x0 gx0 x1 gx1 x2 gx2 x3 gx3 x4 gx4 x5 gx5 x6 gx6 x7 gx7 x8 gx8 x9 gx9 x10 gx10 x11 gx11 x12 gx12 x13 gx13 x14 gx14 x15 gx15 x16 gx16 hp ρ g => sX_vtells x0 gx0 x1 gx1 x2 gx2 ⟨x3, x4, x5, x6, x7, x8⟩ ⟨gx3, gx4, gx5, gx6, gx7, gx8⟩ ⟨x9, x10, x11, x12, x13, x14⟩ ⟨gx9, gx10, gx11, gx12, gx13, gx14⟩ x15 gx15 x16 gx16 ρ g) xs vals w hw trivial).2
set_option maxRecDepth 100000 in
theorem law_ValueTells {H : Type} {enc : TypeId × Value → H} {W : World} {r : Reach} {b0 : Nat} (a0 : Int) (w0 : (Lit.int .i8 a0).wf = true) (a1 : Int) (w1 : (Lit.int .i8 a1).wf = true) (a2 : Int) (w2 : (Lit.int .i8 a2).wf = true) (v3 : Value) (k3 : Value.okWide Tryz.prog W r b0 29 v3) (d3 : DataW H) (p3 : List MemPlace) (h3 : DataW.Trod enc Tryz.prog W 0 (fun _ => true) true 29 v3 d3 p3) (_ : ∀ x ∈ p3, x.block < W.heap.size) (v4 : Value) (k4 : Value.okWide Tryz.prog W r b0 29 v4) (d4 : DataW H) (p4 : List MemPlace) (h4 : DataW.Trod enc Tryz.prog W 0 (fun _ => true) true 29 v4 d4 p4) (_ : ∀ x ∈ p4, x.block < W.heap.size) (a5 : Int) (w5 : (Lit.int .u64 a5).wf = true) (a6 : Int) (w6 : (Lit.int .i64 a6).wf = true) :
    Calls Tryz.prog 3 #[.int .i8 a0, .int .i8 a1, .int .i8 a2, v3, v4, .int .u64 a5, .int .i64 a6] W fun e W' => e = .returned (.bool true) ∧ Below W.heap.size W W' := by
  obtain ⟨q3, rfl, g3⟩ := Sc.of_arg k3 h3
  have g3 := Sc.ok_of g3
  obtain ⟨q4, rfl, g4⟩ := Sc.of_arg k4 h4
  have g4 := Sc.ok_of g4
  refine (sC_vtells [.z a0, .z a1, .z a2, .z q3.ul, .z q3.uh, .z q3.sl, .z q3.sh, .z q3.v, .z q3.m, .z q4.ul, .z q4.uh, .z q4.sl, .z q4.sh, .z q4.v, .z q4.m, .z a5, .z a6] _ W ⟨_, _, _, rfl, ⟨_, rfl, rfl, (inK_of_wf w0)⟩, ⟨_, _, _, rfl, ⟨_, rfl, rfl, (inK_of_wf w1)⟩, ⟨_, _, _, rfl, ⟨_, rfl, rfl, (inK_of_wf w2)⟩, ⟨_, _, _, rfl, ⟨_, _, _, rfl, ⟨_, rfl, rfl, g3.1⟩, ⟨_, _, _, rfl, ⟨_, rfl, rfl, g3.2.1⟩, ⟨_, _, _, rfl, ⟨_, rfl, rfl, g3.2.2.1⟩, ⟨_, _, _, rfl, ⟨_, rfl, rfl, g3.2.2.2.1⟩, ⟨_, _, _, rfl, ⟨_, rfl, rfl, g3.2.2.2.2.1⟩, ⟨_, _, _, rfl, ⟨_, rfl, rfl, g3.2.2.2.2.2⟩, ⟨rfl, rfl⟩⟩⟩⟩⟩⟩⟩, ⟨_, _, _, rfl, ⟨_, _, _, rfl, ⟨_, rfl, rfl, g4.1⟩, ⟨_, _, _, rfl, ⟨_, rfl, rfl, g4.2.1⟩, ⟨_, _, _, rfl, ⟨_, rfl, rfl, g4.2.2.1⟩, ⟨_, _, _, rfl, ⟨_, rfl, rfl, g4.2.2.2.1⟩, ⟨_, _, _, rfl, ⟨_, rfl, rfl, g4.2.2.2.2.1⟩, ⟨_, _, _, rfl, ⟨_, rfl, rfl, g4.2.2.2.2.2⟩, ⟨rfl, rfl⟩⟩⟩⟩⟩⟩⟩, ⟨_, _, _, rfl, ⟨_, rfl, rfl, (inK_of_wf w5)⟩, ⟨_, _, _, rfl, ⟨_, rfl, rfl, (inK_of_wf w6)⟩, ⟨rfl, rfl⟩⟩⟩⟩⟩⟩⟩⟩).mono fun e W' ⟨v, he, hr⟩ => ?_
  have hv : v = .bool true := RetOk.says hr
  rw [he, hv]
  exact ⟨rfl, hr.ext⟩
end Go.Proofs.YtcfnglbcgkappaaGreat
