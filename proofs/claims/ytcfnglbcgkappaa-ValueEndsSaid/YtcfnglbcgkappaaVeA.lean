/- The law ValueEnds, by the symbolic run. -/
import Derived.Test.YtcfnglbcgkappaaVaC
import Derived.Test.YtcfnglbcgkappaaKnL1
import Derived.Test.YtcfnglbcgkappaaSyZc
import Derived.Test.YtcfnglbcgkappaaVaQ
import Derived.Test.YtcfnglbcgkappaaProg
import Derived.Laws.Externs
set_option linter.unusedVariables false
set_option linter.unusedSimpArgs false
namespace Go.Proofs.Ytcfnglbcgkappaa
open Go.RowKit Go.ChangeShapes Go.WideShapes

theorem vmay_nar (s : Sc) : vmay (vnar s) = true := by
  have hall : vmay vall = true := by decide +kernel
  unfold vnar
  split
  · rename_i h
    unfold vnok at h
    simp only [Bool.and_eq_true] at h
    obtain ⟨_, _, _, h1, h2⟩ := h
    show (bmay (bmeet (vst s).r (vlo (vst s).k)) && kmay (kmeet (vst s).k (kcom (bmeet (vst s).r (vlo (vst s).k))))) = true
    rw [Bool.and_eq_true]
    constructor
    · unfold vs1 at h1
      unfold bmeet
      rw [if_pos h1]
      unfold bmeets at h1
      simp only [Bool.and_eq_true] at h1
      exact bmay_bnar h1.2.2
    · unfold vs2 at h2
      unfold kmeet
      rw [if_pos h2]
      exact kmay_mask _ _
  · exact hall
theorem vmay_wid (a b : Sc) : vmay (vwid a b) = true := by
  unfold vwid
  split
  · exact vmay_nar _
  · decide +kernel
def tys_VeA : List (Nat × TI) := [(2, ⟨false, 1, [.int .i64 (.lit 0)], [], none, some .i64, false, false, none, 8, false⟩),
 (3, ⟨false, 1, [.int .i64 (.lit 0)], [], none, some .i64, false, false, none, 8, false⟩),
 (23, ⟨false, 1, [.int .u64 (.lit 0)], [], none, some .u64, false, false, none, 8, false⟩),
 (25, ⟨true, 4, [.int .u64 (.lit 0), .int .u64 (.lit 0), .int .i64 (.lit 0), .int .i64 (.lit 0)], [(0, 23), (1, 23), (2, 2), (3, 2)], none, none, true, false, none, 32, false⟩),
 (27, ⟨true, 2, [.int .u64 (.lit 0), .int .u64 (.lit 0)], [(0, 23), (1, 23)], none, none, false, false, none, 16, false⟩),
 (29, ⟨true, 6, [.int .u64 (.lit 0), .int .u64 (.lit 0), .int .i64 (.lit 0), .int .i64 (.lit 0), .int .u64 (.lit 0), .int .u64 (.lit 0)], [(0, 25), (4, 27)], none, none, false, false, none, 48, false⟩),
 (58, ⟨false, 1, [.nsl], [], none, none, false, false, some 29, 24, false⟩)]
set_option maxRecDepth 100000 in
theorem tysck_VeA : (tys_VeA.all fun p => ckTI Try.prog p.1 p.2) = true := by kernel_rfl
theorem tyseq_VeA : (tys_VeA.all fun p => !p.2.eqok || ((Nat.beq p.1 25 && kindsC p.2.zero z_Rg))) = true := by kernel_rfl
theorem tysok_VeA : ∀ t i, (t, i) ∈ tys_VeA → TIok Try.prog t i := by
  intro t i h
  have h1 := List.all_eq_true.1 tyseq_VeA (t, i) h
  have h2 : i.eqok = true → (t = 25 ∧ kindsC i.zero z_Rg = true) := by
    intro he
    simp only [he, Bool.not_true, Bool.false_or, Bool.or_eq_true, Bool.and_eq_true] at h1
    exact ⟨Nat.eq_of_beq_eq_true h1.1, h1.2⟩
  refine TIok_of (all_at (f := ckTI Try.prog) tysck_VeA h) (fun he => ?_) (fun he => ?_)
  · rcases h2 he with ⟨rfl, hs⟩
    · exact fun vs us hv hu => eq_Rg vs us (kindsV_of hs hv) (kindsV_of hs hu)
  · rcases h2 he with ⟨rfl, hs⟩
    · exact grd_Rg
def sM_lends (key : Nat) : Sm := ⟨7, key, [.agg kSc, .one (.sl [some .u64, some .u64, some .i64, some .i64, some .u64, some .u64] 29)], [.one .bool], false⟩
def sV_lends (a : Sc) (L : List (List Int)) : List Dt := [.z (b2i true)]
def sF_lends : List Dt → List Dt
  | [.z x0, .z x1, .z x2, .z x3, .z x4, .z x5, .l x6] => sV_lends ⟨x0, x1, x2, x3, x4, x5⟩ x6
  | _ => []
def sT_lends : Tr :=
(.br (.lt (.lit 40) (.len (.lvar 6)))
(.call 1 ([.bool]) .nil 7
(.leaf (.consb (.bvar 7) .nil)))
(.call 0 ([.bool]) (.vs 0 6 .nil) 7
(.br (.bvar 7)
(.loop 0 8 [.int .u64, .int .u64, .int .i64, .int .i64, .int .u64, .int .u64, .int .i64, .int .i64] (.vs 0 6 (.cons (.lit 0) (.cons (.lit 0) .nil)))
(.br (.lt (.var 15) (.len (.lvar 6)))
(.br (.lt (.var 15) (.lit 0))
.panic
(.call 0 ([.bool]) (.cons (.get (.lvar 6) (.var 15) 0) (.cons (.get (.lvar 6) (.var 15) 1) (.cons (.get (.lvar 6) (.var 15) 2) (.cons (.get (.lvar 6) (.var 15) 3) (.cons (.get (.lvar 6) (.var 15) 4) (.cons (.get (.lvar 6) (.var 15) 5) .nil)))))) 16
(.br (.bvar 16)
(.call 2 (kSc) (.vs 8 6 (.cons (.get (.lvar 6) (.var 15) 0) (.cons (.get (.lvar 6) (.var 15) 1) (.cons (.get (.lvar 6) (.var 15) 2) (.cons (.get (.lvar 6) (.var 15) 3) (.cons (.get (.lvar 6) (.var 15) 4) (.cons (.get (.lvar 6) (.var 15) 5) .nil))))))) 17
(.call 3 (kSc) (.vs 8 6 (.vs 17 6 .nil)) 23
(.br (.eq (.var 23) (.var 8))
(.br (.eq (.var 24) (.var 9))
(.br (.eq (.var 25) (.var 10))
(.br (.eq (.var 26) (.var 11))
(.call 0 ([.bool]) (.vs 23 6 .nil) 29
(.br (.bvar 29)
(.next 0 (.vs 23 6 (.cons (.var 14) (.cons (.bin .add .i64 (.var 15) (.lit 1)) .nil))))
(.leaf (.consb (.tt false) .nil))))
(.call 0 ([.bool]) (.vs 23 6 .nil) 29
(.br (.bvar 29)
(.next 0 (.vs 23 6 (.cons (.bin .add .i64 (.var 14) (.lit 1)) (.cons (.bin .add .i64 (.var 15) (.lit 1)) .nil))))
(.leaf (.consb (.tt false) .nil)))))
(.call 0 ([.bool]) (.vs 23 6 .nil) 29
(.br (.bvar 29)
(.next 0 (.vs 23 6 (.cons (.bin .add .i64 (.var 14) (.lit 1)) (.cons (.bin .add .i64 (.var 15) (.lit 1)) .nil))))
(.leaf (.consb (.tt false) .nil)))))
(.call 0 ([.bool]) (.vs 23 6 .nil) 29
(.br (.bvar 29)
(.next 0 (.vs 23 6 (.cons (.bin .add .i64 (.var 14) (.lit 1)) (.cons (.bin .add .i64 (.var 15) (.lit 1)) .nil))))
(.leaf (.consb (.tt false) .nil)))))
(.call 0 ([.bool]) (.vs 23 6 .nil) 29
(.br (.bvar 29)
(.next 0 (.vs 23 6 (.cons (.bin .add .i64 (.var 14) (.lit 1)) (.cons (.bin .add .i64 (.var 15) (.lit 1)) .nil))))
(.leaf (.consb (.tt false) .nil)))))))
(.next 0 (.vs 8 7 (.cons (.bin .add .i64 (.var 15) (.lit 1)) .nil))))))
(.br (.lt (.lit 80) (.var 14))
(.leaf (.consb (.tt false) .nil))
(.call 1 ([.bool]) .nil 16
(.leaf (.consb (.bvar 16) .nil))))))
(.call 1 ([.bool]) .nil 8
(.leaf (.consb (.bvar 8) .nil))))))
def sP_lends : Spec := ⟨fun k => match k with | 0 => sF_vmay | 1 => sF_vwakes | 2 => sF_vjoin | 3 => sF_vwid | _ => fun _ => [], fun k => match k with | _ => fun _ => True⟩
set_option maxRecDepth 100000 in
theorem sR_lends : treeIs tys_VeA [sM_vmay 0, sM_vwakes 1, sM_vjoin 2, sM_vwid 3] [(5, [.celI 1 0 .u64, .celI 1 1 .u64, .celI 1 2 .i64, .celI 1 3 .i64, .celI 1 4 .u64, .celI 1 5 .u64, .tmpI 5 .i64, .tmpI 20 .i64, .top 21, .top 22, .top 23, .top 7, .top 24, .top 25, .top 26, .top 27, .top 28, .top 29, .top 30, .top 31, .top 8, .top 32, .top 33, .top 34, .top 35, .top 36, .top 37, .top 38, .top 39, .top 40, .top 41, .top 4, .top 42, .top 43])] [] 200 Try.f7 [.agg kSc, .one (.sl [some .u64, some .u64, some .i64, some .i64, some .u64, some .u64] 29)] [.one .bool] false [.int .u64, .int .u64, .int .i64, .int .i64, .int .u64, .int .u64, .list [some .u64, some .u64, some .i64, some .i64, some .u64, some .u64]] sT_lends := ⟨by kernel_rfl, by kernel_rfl, by kernel_rfl⟩
set_option maxRecDepth 100000 in
set_option maxHeartbeats 8000000 in
theorem sX_lends (a : Sc) (ha : Sc.ok a) (L : List (List Int)) (hL : RowsIn [some .u64, some .u64, some .i64, some .i64, some .u64, some .u64] L) (ρ : Env) (g : varsD ρ 0 [.int .u64, .int .u64, .int .i64, .int .i64, .int .u64, .int .u64, .list [some .u64, some .u64, some .i64, some .i64, some .u64, some .u64]] = [.z a.ul, .z a.uh, .z a.sl, .z a.sh, .z a.v, .z a.m, .l L]) : sT_lends.asks sP_lends (fun ρ e => e.D ρ = sF_lends [.z a.ul, .z a.uh, .z a.sl, .z a.sh, .z a.v, .z a.m, .l L]) ρ fun _ _ => False := by
  simp only [varsD, varD, List.cons.injEq, Dt.z.injEq, Dt.l.injEq, b2i_eq_iff, Nat.reduceAdd, and_true] at g
  simp only [sT_lends, sP_lends, kSc, sF_vmay, sF_vwakes, sF_vjoin, sF_vwid, sV_vmay, sV_vjoin, sV_vwid, sF_lends, sV_lends, Tr.asks, upd_same, okDs, okD, eqs, E.I, E.B, E.L, E.R, E.D, E.vs, dI, dB, dL, varD, varsD, List.getElem?_cons_zero, List.getElem?_cons_succ, List.cons_append, List.nil_append, Nat.zero_add, Nat.add_zero, Nat.reduceAdd, and_true, true_and, b2i_one, -eq_self, Kn.eta, Pi.eta, Pu.eta, Rg.eta, Sc.eta, Sc.eta_r, Sc.eta_k, Sc.eta_2, g]
  refine ⟨fun c0 => ?_, fun c0 => ?_⟩
  intro e; (try simp only [e, Kn.eta, Pi.eta, Pu.eta, Rg.eta, Sc.eta, Sc.eta_r, Sc.eta_k, Sc.eta_2, -eq_self]); clear e
  rfl
  intro e; (try simp only [e, Kn.eta, Pi.eta, Pu.eta, Rg.eta, Sc.eta, Sc.eta_r, Sc.eta_k, Sc.eta_2, -eq_self]); clear e
  refine ⟨fun c1 => ?_, fun c1 => ?_⟩
  refine ⟨fun ds => ∃ (x : Sc) (m i : Int), ds = [.z x.ul, .z x.uh, .z x.sl, .z x.sh, .z x.v, .z x.m, .z m, .z i] ∧ vmay x = true ∧ 0 ≤ m ∧ m ≤ i ∧ i ≤ L.length, fun ds => (L.length - dI ds 7).toNat, ⟨a, 0, 0, rfl, c1, by omega, by omega, by omega⟩, ?_⟩
  intro ρ' ag ok hi
  obtain ⟨x, m, i, hd, hx, h0, hm, hl⟩ := hi
  simp only [List.cons.injEq, Dt.z.injEq, and_true] at hd
  simp only [hd, ← (ag 6 (by decide)).2.2, g, Sc.eta, Sc.eta_r, dI, List.getElem?_cons_zero, List.getElem?_cons_succ, -eq_self]
  clear ok ag
  have h40 := Int.not_lt.1 (of_decide_eq_false c0)
  refine ⟨fun c2 => ?_, fun c2 => ?_⟩
  refine ⟨fun c3 => ?_, fun c3 => ?_⟩
  show False
  (have h := of_decide_eq_true c3; omega)
  intro e; (try simp only [e, Kn.eta, Pi.eta, Pu.eta, Rg.eta, Sc.eta, Sc.eta_r, Sc.eta_k, Sc.eta_2, -eq_self]); clear e
  refine ⟨fun c4 => ?_, fun c4 => ?_⟩
  intro e; (try simp only [e, Kn.eta, Pi.eta, Pu.eta, Rg.eta, Sc.eta, Sc.eta_r, Sc.eta_k, Sc.eta_2, -eq_self]); clear e
  intro e; (try simp only [e, Kn.eta, Pi.eta, Pu.eta, Rg.eta, Sc.eta, Sc.eta_r, Sc.eta_k, Sc.eta_2, -eq_self]); clear e
  refine ⟨fun c5 => ?_, fun c5 => ?_⟩
  refine ⟨fun c6 => ?_, fun c6 => ?_⟩
  refine ⟨fun c7 => ?_, fun c7 => ?_⟩
  refine ⟨fun c8 => ?_, fun c8 => ?_⟩
  intro e; (try simp only [e, Kn.eta, Pi.eta, Pu.eta, Rg.eta, Sc.eta, Sc.eta_r, Sc.eta_k, Sc.eta_2, -eq_self]); clear e
  refine ⟨fun c9 => ?_, fun c9 => ?_⟩
  have hi := of_decide_eq_true c2
  have e1 : opI .add .i64 i 1 = i + 1 := by show IntKind.i64.wrap (i + 1) = _; rw [w_i64]; omega
  have e2 : opI .add .i64 m 1 = m + 1 := by show IntKind.i64.wrap (m + 1) = _; rw [w_i64]; omega
  simp only [e1, e2]
  exact ⟨⟨_, _, _, rfl, c9, by omega, by omega, by omega⟩, by omega⟩
  exact absurd c9 (by rw [vmay_wid]; simp)
  intro e; (try simp only [e, Kn.eta, Pi.eta, Pu.eta, Rg.eta, Sc.eta, Sc.eta_r, Sc.eta_k, Sc.eta_2, -eq_self]); clear e
  refine ⟨fun c10 => ?_, fun c10 => ?_⟩
  have hi := of_decide_eq_true c2
  have e1 : opI .add .i64 i 1 = i + 1 := by show IntKind.i64.wrap (i + 1) = _; rw [w_i64]; omega
  have e2 : opI .add .i64 m 1 = m + 1 := by show IntKind.i64.wrap (m + 1) = _; rw [w_i64]; omega
  simp only [e1, e2]
  exact ⟨⟨_, _, _, rfl, c10, by omega, by omega, by omega⟩, by omega⟩
  exact absurd c10 (by rw [vmay_wid]; simp)
  intro e; (try simp only [e, Kn.eta, Pi.eta, Pu.eta, Rg.eta, Sc.eta, Sc.eta_r, Sc.eta_k, Sc.eta_2, -eq_self]); clear e
  refine ⟨fun c11 => ?_, fun c11 => ?_⟩
  have hi := of_decide_eq_true c2
  have e1 : opI .add .i64 i 1 = i + 1 := by show IntKind.i64.wrap (i + 1) = _; rw [w_i64]; omega
  have e2 : opI .add .i64 m 1 = m + 1 := by show IntKind.i64.wrap (m + 1) = _; rw [w_i64]; omega
  simp only [e1, e2]
  exact ⟨⟨_, _, _, rfl, c11, by omega, by omega, by omega⟩, by omega⟩
  exact absurd c11 (by rw [vmay_wid]; simp)
  intro e; (try simp only [e, Kn.eta, Pi.eta, Pu.eta, Rg.eta, Sc.eta, Sc.eta_r, Sc.eta_k, Sc.eta_2, -eq_self]); clear e
  refine ⟨fun c12 => ?_, fun c12 => ?_⟩
  have hi := of_decide_eq_true c2
  have e1 : opI .add .i64 i 1 = i + 1 := by show IntKind.i64.wrap (i + 1) = _; rw [w_i64]; omega
  have e2 : opI .add .i64 m 1 = m + 1 := by show IntKind.i64.wrap (m + 1) = _; rw [w_i64]; omega
  simp only [e1, e2]
  exact ⟨⟨_, _, _, rfl, c12, by omega, by omega, by omega⟩, by omega⟩
  exact absurd c12 (by rw [vmay_wid]; simp)
  intro e; (try simp only [e, Kn.eta, Pi.eta, Pu.eta, Rg.eta, Sc.eta, Sc.eta_r, Sc.eta_k, Sc.eta_2, -eq_self]); clear e
  refine ⟨fun c13 => ?_, fun c13 => ?_⟩
  have hi := of_decide_eq_true c2
  have e1 : opI .add .i64 i 1 = i + 1 := by show IntKind.i64.wrap (i + 1) = _; rw [w_i64]; omega
  have e2 : opI .add .i64 m 1 = m + 1 := by show IntKind.i64.wrap (m + 1) = _; rw [w_i64]; omega
  simp only [e1, e2]
  exact ⟨⟨_, _, _, rfl, c13, by omega, by omega, by omega⟩, by omega⟩
  exact absurd c13 (by rw [vmay_wid]; simp)
  have hi := of_decide_eq_true c2
  have e1 : opI .add .i64 i 1 = i + 1 := by show IntKind.i64.wrap (i + 1) = _; rw [w_i64]; omega
  have e2 : opI .add .i64 m 1 = m + 1 := by show IntKind.i64.wrap (m + 1) = _; rw [w_i64]; omega
  simp only [e1, e2]
  exact ⟨⟨_, _, _, rfl, hx, by omega, by omega, by omega⟩, by omega⟩
  refine ⟨fun c14 => ?_, fun c14 => ?_⟩
  (have h80 := of_decide_eq_true c14; omega)
  intro e; (try simp only [e, Kn.eta, Pi.eta, Pu.eta, Rg.eta, Sc.eta, Sc.eta_r, Sc.eta_k, Sc.eta_2, -eq_self]); clear e
  rfl
  intro e; (try simp only [e, Kn.eta, Pi.eta, Pu.eta, Rg.eta, Sc.eta, Sc.eta_r, Sc.eta_k, Sc.eta_2, -eq_self]); clear e
  rfl
theorem sC_lends (xs : List Dt) (vals : List Value) (w : World) (hw : shRel w [.agg kSc, .one (.sl [some .u64, some .u64, some .i64, some .i64, some .u64, some .u64] 29)] xs vals) : Calls Try.prog 7 vals.toArray w fun e w' => ∃ v, e = .returned v ∧ RetOk [.one .bool] false w w' (sF_lends xs) v :=
  (fun_calls (by kernel_rfl) tysok_VeA (smc (sK_vmay rfl) (smc (sK_vwakes rfl) (smc (sK_vjoin rfl) (smc (sK_vwid rfl) sm0)))) Try.func7 sR_lends (pre := fun _ => True) (fun x0 gx0 x1 gx1 x2 gx2 x3 gx3 x4 gx4 x5 gx5 x6 gx6 hp ρ g => sX_lends ⟨x0, x1, x2, x3, x4, x5⟩ ⟨gx0, gx1, gx2, gx3, gx4, gx5⟩ x6 gx6 ρ g) xs vals w hw trivial).2
theorem rwU : Rw Try.prog 23 [some .u64] := Rw.int .u64 Try.underlying23 (by kernel_rfl)
theorem rwI : Rw Try.prog 2 [some .i64] := Rw.int .i64 Try.underlying2 (by kernel_rfl)
theorem rwRg : Rw Try.prog 25 [some .u64, some .u64, some .i64, some .i64] := by
  refine Rw.struct (ks := [some .u64, some .u64, some .i64, some .i64]) ?_ Try.underlying25 (by kernel_rfl)
  exact (RwSeq.cons (ks := [some .u64]) rwU (by rfl) (RwSeq.cons (ks := [some .u64]) rwU (by rfl) (RwSeq.cons (ks := [some .i64]) rwI (by rfl) (RwSeq.cons (ks := [some .i64]) rwI (by rfl) (RwSeq.nil _ _)))))
theorem rwKn : Rw Try.prog 27 [some .u64, some .u64] := by
  refine Rw.struct (ks := [some .u64, some .u64]) ?_ Try.underlying27 (by kernel_rfl)
  exact (RwSeq.cons (ks := [some .u64]) rwU (by rfl) (RwSeq.cons (ks := [some .u64]) rwU (by rfl) (RwSeq.nil _ _)))
theorem rwSc : Rw Try.prog 29 [some .u64, some .u64, some .i64, some .i64, some .u64, some .u64] := by
  refine Rw.struct (ks := [some .u64, some .u64, some .i64, some .i64, some .u64, some .u64]) ?_ Try.underlying29 (by kernel_rfl)
  exact (RwSeq.cons (ks := [some .u64, some .u64, some .i64, some .i64]) rwRg (by rfl) (RwSeq.cons (ks := [some .u64, some .u64]) rwKn (by rfl) (RwSeq.nil _ _)))
set_option maxRecDepth 100000 in
theorem law_ValueEnds {H : Type} {enc : TypeId × Value → H} {W : World} {r : Reach} {b0 : Nat} (v0 : Value) (k0 : Value.okWide Try.prog W r b0 29 v0) (d0 : DataW H) (p0 : List MemPlace) (h0 : DataW.Trod enc Try.prog W 0 (fun _ => true) true 29 v0 d0 p0) (_ : ∀ x ∈ p0, x.block < W.heap.size) (v1 : Value) (k1 : Value.okWide Try.prog W r b0 58 v1) (d1 : DataW H) (p1 : List MemPlace) (h1 : DataW.Trod enc Try.prog W 0 (fun _ => true) true 58 v1 d1 p1) (_ : ∀ x ∈ p1, x.block < W.heap.size) :
    Calls Try.prog 7 #[v0, v1] W fun e W' => e = .returned (.bool true) ∧ Below W.heap.size W W' := by
  obtain ⟨q0, rfl, g0⟩ := Sc.of_arg k0 h0
  have g0 := Sc.ok_of g0
  obtain ⟨q1, s1, rfl, n1, m1, o1, l1⟩ := sl_of_arg rwSc (by decide) Try.underlying58 k1 h1
  refine (sC_lends [.z q0.ul, .z q0.uh, .z q0.sl, .z q0.sh, .z q0.v, .z q0.m, .l q1] _ W ⟨_, _, _, rfl, ⟨_, _, _, rfl, ⟨_, rfl, rfl, g0.1⟩, ⟨_, _, _, rfl, ⟨_, rfl, rfl, g0.2.1⟩, ⟨_, _, _, rfl, ⟨_, rfl, rfl, g0.2.2.1⟩, ⟨_, _, _, rfl, ⟨_, rfl, rfl, g0.2.2.2.1⟩, ⟨_, _, _, rfl, ⟨_, rfl, rfl, g0.2.2.2.2.1⟩, ⟨_, _, _, rfl, ⟨_, rfl, rfl, g0.2.2.2.2.2⟩, ⟨rfl, rfl⟩⟩⟩⟩⟩⟩⟩, ⟨_, _, _, rfl, ⟨_, _, rfl, rfl, n1, m1, o1, l1⟩, ⟨rfl, rfl⟩⟩⟩).mono fun e W' ⟨v, he, hr⟩ => ?_
  have hv : v = .bool true := RetOk.says hr
  rw [he, hv]
  exact ⟨rfl, hr.ext⟩
end Go.Proofs.Ytcfnglbcgkappaa
