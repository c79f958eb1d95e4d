/- The law ValueSingles, by the symbolic run. -/
import Derived.Test.YtcngfmhhaleoaaaVaC
import Derived.Test.YtcngfmhhaleoaaaVn
import Derived.Test.YtcngfmhhaleoaaaXbF
import Derived.Test.YtcngfmhhaleoaaaVaQ
import Derived.Test.YtcngfmhhaleoaaaProg
import Derived.Laws.Externs
set_option linter.unusedVariables false
set_option linter.unusedSimpArgs false
namespace Go.Proofs.Ytcngfmhhaleoaaa
open Go.RowKit Go.ChangeShapes Go.WideShapes

def z_Sc : List C := [.int .u64 (.lit 0), .int .u64 (.lit 0), .int .i64 (.lit 0), .int .i64 (.lit 0), .int .u64 (.lit 0), .int .u64 (.lit 0)]
theorem grd_Sc : Try.prog.eqGuardType Try.prog.depth 52 = false := by kernel_rfl
theorem cells52_Sc : Try.prog.cellsOf 52 = 6 := by kernel_rfl
theorem cells24_Sc : Try.prog.cellsOf 24 = 4 := by kernel_rfl
theorem cells50_Sc : Try.prog.cellsOf 50 = 2 := by kernel_rfl
theorem cells22_Sc : Try.prog.cellsOf 22 = 1 := by kernel_rfl
theorem cells2_Sc : Try.prog.cellsOf 2 = 1 := by kernel_rfl
set_option maxRecDepth 100000 in
theorem kl_Sc (vs : List Value) (hv : kindsV vs z_Sc) : Try.prog.keyLits 6 52 vs = some (litsOf vs) := by
  obtain ⟨x0, _, rfl, g0, hv⟩ := kindsV_int hv
  obtain ⟨x1, _, rfl, g1, hv⟩ := kindsV_int hv
  obtain ⟨x2, _, rfl, g2, hv⟩ := kindsV_int hv
  obtain ⟨x3, _, rfl, g3, hv⟩ := kindsV_int hv
  obtain ⟨x4, _, rfl, g4, hv⟩ := kindsV_int hv
  obtain ⟨x5, _, rfl, g5, hv⟩ := kindsV_int hv
  obtain rfl := kindsV_nil hv
  simp [Program.keyLits, Try.underlying52, Try.underlying24, Try.underlying50, Try.underlying22, Try.underlying2, cells52_Sc, cells24_Sc, cells50_Sc, cells22_Sc, cells2_Sc, inK_wf, litsOf, g0, g1, g2, g3, g4, g5]
  split
  · simp only [Option.bind_some, Function.comp_apply]
    split
    · rfl
    · rename_i h; exact absurd (by decide) h
  · rename_i h; exact absurd (by decide) h
theorem fm_Sc (vs : List Value) (hv : kindsV vs z_Sc) : (Value.agg vs.toArray).formed Try.prog 52 = true := by
  obtain ⟨x0, _, rfl, g0, hv⟩ := kindsV_int hv
  obtain ⟨x1, _, rfl, g1, hv⟩ := kindsV_int hv
  obtain ⟨x2, _, rfl, g2, hv⟩ := kindsV_int hv
  obtain ⟨x3, _, rfl, g3, hv⟩ := kindsV_int hv
  obtain ⟨x4, _, rfl, g4, hv⟩ := kindsV_int hv
  obtain ⟨x5, _, rfl, g5, hv⟩ := kindsV_int hv
  obtain rfl := kindsV_nil hv
  kernel_rfl
theorem eq_Sc (vs us : List Value) (hv : kindsV vs z_Sc) (hu : kindsV us z_Sc) (w : World) : (Op.equal 52 (.agg vs.toArray) (.agg us.toArray)).run Try.prog w = .ok (eqVs vs us) w :=
  eq_of_keys (by kernel_rfl) fm_Sc 6 kl_Sc vs us hv hu w
def tys_VaF : List (Nat × TI) := [(2, ⟨false, 1, [.int .i64 (.lit 0)], [], none, some .i64, false, false⟩),
  (22, ⟨false, 1, [.int .u64 (.lit 0)], [], none, some .u64, false, false⟩),
  (24, ⟨true, 4, [.int .u64 (.lit 0), .int .u64 (.lit 0), .int .i64 (.lit 0), .int .i64 (.lit 0)], [(0, 22), (1, 22), (2, 2), (3, 2)], none, none, false, false⟩),
  (42, ⟨false, 1, [.int .i64 (.lit 0)], [], none, some .i64, false, false⟩),
  (50, ⟨true, 2, [.int .u64 (.lit 0), .int .u64 (.lit 0)], [(0, 22), (1, 22)], none, none, false, false⟩),
  (52, ⟨true, 6, [.int .u64 (.lit 0), .int .u64 (.lit 0), .int .i64 (.lit 0), .int .i64 (.lit 0), .int .u64 (.lit 0), .int .u64 (.lit 0)], [(0, 24), (4, 50)], none, none, true, false⟩)]
set_option maxRecDepth 100000 in
theorem tysck_VaF : (tys_VaF.all fun p => ckTI Try.prog p.1 p.2) = true := by kernel_rfl
theorem tyseq_VaF : (tys_VaF.all fun p => !p.2.eqok || ((Nat.beq p.1 52 && kindsC p.2.zero z_Sc))) = true := by kernel_rfl
theorem tysok_VaF : ∀ t i, (t, i) ∈ tys_VaF → TIok Try.prog t i := by
  intro t i h
  have h1 := List.all_eq_true.1 tyseq_VaF (t, i) h
  have h2 : i.eqok = true → (t = 52 ∧ kindsC i.zero z_Sc = true) := by
    intro he
    simp only [he, Bool.not_true, Bool.false_or, Bool.or_eq_true, Bool.and_eq_true] at h1
    exact ⟨Nat.eq_of_beq_eq_true h1.1, h1.2⟩
  refine TIok_of (all_at (f := ckTI Try.prog) tysck_VaF h) (fun he => ?_) (fun he => ?_)
  · rcases h2 he with ⟨rfl, hs⟩
    · exact fun vs us hv hu => eq_Sc vs us (kindsV_of hs hv) (kindsV_of hs hu)
  · rcases h2 he with ⟨rfl, hs⟩
    · exact grd_Sc
def sT_lsing : Tr :=
(.call 0 [.int .u64, .int .i64] (.cons (.var 0) (.cons (.var 1) (.cons (.var 2) (.cons (.var 3) .nil)))) 4
 (.call 1 [.int .u64, .int .u64, .int .i64, .int .i64, .int .u64, .int .u64] (.cons (.var 2) .nil) 6
 (.call 1 [.int .u64, .int .u64, .int .i64, .int .i64, .int .u64, .int .u64] (.cons (.var 3) .nil) 12
 (.call 2 [.int .u64, .int .u64, .int .i64, .int .i64, .int .u64, .int .u64] (.cons (.var 0) (.cons (.var 1) (.cons (.var 6) (.cons (.var 7) (.cons (.var 8) (.cons (.var 9) (.cons (.var 10) (.cons (.var 11) (.cons (.var 12) (.cons (.var 13) (.cons (.var 14) (.cons (.var 15) (.cons (.var 16) (.cons (.var 17) .nil)))))))))))))) 18
 (.br (.eq (.var 5) (.lit 0))
 (.call 5 [.int .u64, .bool] (.cons (.var 18) (.cons (.var 19) (.cons (.var 20) (.cons (.var 21) (.cons (.var 22) (.cons (.var 23) .nil)))))) 24
  (.br (.bvar 25)
  (.br (.eq (.var 24) (.var 4))
   (.call 4 [.bool] .nil 26
    (.leaf (.one (.bool (.bvar 26)))))
   (.leaf (.one (.bool (.tt false)))))
  (.leaf (.one (.bool (.tt false))))))
 (.call 3 [.int .u64, .int .u64, .int .i64, .int .i64, .int .u64, .int .u64] .nil 24
  (.br (.eq (.var 18) (.var 24))
  (.br (.eq (.var 19) (.var 25))
   (.br (.eq (.var 20) (.var 26))
    (.br (.eq (.var 21) (.var 27))
     (.br (.eq (.var 22) (.var 28))
      (.br (.eq (.var 23) (.var 29))
       (.call 4 [.bool] .nil 30
        (.leaf (.one (.bool (.bvar 30)))))
       (.leaf (.one (.bool (.tt false)))))
      (.leaf (.one (.bool (.tt false)))))
     (.leaf (.one (.bool (.tt false)))))
    (.leaf (.one (.bool (.tt false)))))
   (.leaf (.one (.bool (.tt false)))))
  (.leaf (.one (.bool (.tt false)))))))))))
def sP_lsing : Spec := ⟨fun k => match k with | 0 => sI_bits | 1 => sI_vone | 2 => sI_vdo | 3 => sI_vall | 4 => sI_vwakes | 5 => sI_vsingle | _ => fun _ _ => 0, fun k => match k with | 0 => sB_bits | 1 => sB_vone | 2 => sB_vdo | 3 => sB_vall | 4 => sB_vwakes | 5 => sB_vsingle | _ => fun _ _ => false⟩
set_option maxRecDepth 100000 in
theorem sR_lsing : funK ⟨tys_VaF, [sM_bits 0, sM_vone 1, sM_vdo 2, sM_vall 3, sM_vwakes 4, sM_vsingle 5]⟩ 200 Try.f7 [.one (.int .i8 (.var 0)), .one (.int .i8 (.var 1)), .one (.int .u64 (.var 2)), .one (.int .u64 (.var 3))] ⟨[], [], [some .i8, some .i8, some .u64, some .u64]⟩ = sT_lsing := by kernel_rfl
set_option maxRecDepth 100000 in
set_option maxHeartbeats 8000000 in
theorem sX_lsing (op : Int) (hop : inK .i8 op = true) (l : Int) (hl : inK .i8 l = true) (v : Int) (hv : inK .u64 v = true) (x : Int) (hx : inK .u64 x = true) : (∀ w, Calls Try.prog 7 #[.int .i8 op, .int .i8 l, .int .u64 v, .int .u64 x] w fun e w' => e = .returned (.bool true) ∧ Ext w w') ∧ valIn (.bool true) = true := by
  refine fun_calls (cx := ⟨tys_VaF, [sM_bits 0, sM_vone 1, sM_vdo 2, sM_vall 3, sM_vwakes 4, sM_vsingle 5]⟩) (sp := sP_lsing) (t := sT_lsing) (by kernel_rfl) tysok_VaF (List.forall_mem_cons.2 ⟨sK_bits rfl rfl, List.forall_mem_cons.2 ⟨sK_vone rfl rfl, List.forall_mem_cons.2 ⟨sK_vdo rfl rfl, List.forall_mem_cons.2 ⟨sK_vall rfl rfl, List.forall_mem_cons.2 ⟨sK_vwakes rfl rfl, List.forall_mem_cons.2 ⟨sK_vsingle rfl rfl, fun _ h => (by cases h)⟩⟩⟩⟩⟩⟩) (keys_of (by kernel_rfl)) Try.func7 ⟨fun n => ([op, l, v, x] : List Int).getD n 0, fun n => ([false, false, false, false] : List Bool).getD n false⟩ sR_lsing (by kernel_rfl) ?_ rfl (by intro p hp; cases hp) ?_ ?_
  · intro n k hk
    have hlt : n < 4 := by
      rcases Nat.lt_or_ge n 4 with h | h
      · exact h
      · rw [List.getElem?_eq_none h] at hk; cases hk
    rcases (show n = 0 ∨ n = 1 ∨ n = 2 ∨ n = 3 by omega) with rfl | rfl | rfl | rfl
    · cases hk; exact hop
    · cases hk; exact hl
    · cases hk; exact hv
    · cases hk; exact hx
  · intro ρ hag
    have g0 : ρ.i 0 = op := (hag 0 (by decide)).1.symm
    have g1 : ρ.i 1 = l := (hag 1 (by decide)).1.symm
    have g2 : ρ.i 2 = v := (hag 2 (by decide)).1.symm
    have g3 : ρ.i 3 = x := (hag 3 (by decide)).1.symm
    show some ([.int .i8 (ρ.i 0), .int .i8 (ρ.i 1), .int .u64 (ρ.i 2), .int .u64 (ρ.i 3)] : List Value) = _
    rw [g0, g1, g2, g3]
  · intro ρ hag
    have g0 : ρ.i 0 = op := (hag 0 (by decide)).1.symm
    have g1 : ρ.i 1 = l := (hag 1 (by decide)).1.symm
    have g2 : ρ.i 2 = v := (hag 2 (by decide)).1.symm
    have g3 : ρ.i 3 = x := (hag 3 (by decide)).1.symm
    simp only [sT_lsing, Tr.asks, eqs, E.I, E.B, E.L, V.den, C.den, denL, den0, den0L, Option.map_some, Nat.add_zero, Nat.reduceAdd, and_true, Sc.eta_r, Sc.eta_k, Sc.eta_2, g0, g1, g2, g3]
    simp only [sP_lsing, b01, Kn.eta, Pi.eta, Pu.eta, Rg.eta, Sc.eta, Sc.eta_r, Sc.eta_k, Sc.eta_2, sI_bits, sB_bits, sI_vone, sB_vone, sI_vdo, sB_vdo, sI_vall, sB_vall, sI_vwakes, sB_vwakes, sI_vsingle, sB_vsingle]
    have gv := inK_u64 hv
    have gx := inK_u64 hx
    have f1 : okop op l = true → vones (vdo op l (vone v) (vone x)) = true := fun h => (vdo_one gv gx h).1
    have f2 : okop op l = true → vsingle (vdo op l (vone v) (vone x)) = zdo op l v x := fun h => (vdo_one gv gx h).2
    have f3 : okop op l = false → vdo op l (vone v) (vone x) = vall := vdo_bad
    rintro ⟨e4, e5⟩
    (try simp only [e4, e5, Kn.eta, Pi.eta, Pu.eta, Rg.eta, Sc.eta, Sc.eta_r, Sc.eta_k, Sc.eta_2])
    (try clear e4 e5)
    rintro ⟨e6, e7, e8, e9, e10, e11⟩
    (try simp only [e6, e7, e8, e9, e10, e11, Kn.eta, Pi.eta, Pu.eta, Rg.eta, Sc.eta, Sc.eta_r, Sc.eta_k, Sc.eta_2])
    (try clear e6 e7 e8 e9 e10 e11)
    rintro ⟨e12, e13, e14, e15, e16, e17⟩
    (try simp only [e12, e13, e14, e15, e16, e17, Kn.eta, Pi.eta, Pu.eta, Rg.eta, Sc.eta, Sc.eta_r, Sc.eta_k, Sc.eta_2])
    (try clear e12 e13 e14 e15 e16 e17)
    rintro ⟨e18, e19, e20, e21, e22, e23⟩
    (try simp only [e18, e19, e20, e21, e22, e23, Kn.eta, Pi.eta, Pu.eta, Rg.eta, Sc.eta, Sc.eta_r, Sc.eta_k, Sc.eta_2])
    (try clear e18 e19 e20 e21 e22 e23)
    refine ⟨fun c0 => ?_, fun c0 => ?_⟩
    · skip
      rintro ⟨e24, e25⟩
      (try simp only [e24, e25, Kn.eta, Pi.eta, Pu.eta, Rg.eta, Sc.eta, Sc.eta_r, Sc.eta_k, Sc.eta_2])
      (try clear e24 e25)
      refine ⟨fun c1 => ?_, fun c1 => ?_⟩
      · skip
        refine ⟨fun c2 => ?_, fun c2 => ?_⟩
        · skip
          intro e26
          (try simp only [e26, Kn.eta, Pi.eta, Pu.eta, Rg.eta, Sc.eta, Sc.eta_r, Sc.eta_k, Sc.eta_2])
          (try clear e26)
          all_goals
            refine congrArg some ?_
            (cases hk : okop op l <;> simp_all)
        · skip
          all_goals
            refine congrArg some ?_
            (cases hk : okop op l <;> simp_all)
      · skip
        all_goals
          refine congrArg some ?_
          (cases hk : okop op l <;> simp_all)
    · skip
      rintro ⟨e24, e25, e26, e27, e28, e29⟩
      (try simp only [e24, e25, e26, e27, e28, e29, Kn.eta, Pi.eta, Pu.eta, Rg.eta, Sc.eta, Sc.eta_r, Sc.eta_k, Sc.eta_2])
      (try clear e24 e25 e26 e27 e28 e29)
      refine ⟨fun c3 => ?_, fun c3 => ?_⟩
      · skip
        refine ⟨fun c4 => ?_, fun c4 => ?_⟩
        · skip
          refine ⟨fun c5 => ?_, fun c5 => ?_⟩
          · skip
            refine ⟨fun c6 => ?_, fun c6 => ?_⟩
            · skip
              refine ⟨fun c7 => ?_, fun c7 => ?_⟩
              · skip
                refine ⟨fun c8 => ?_, fun c8 => ?_⟩
                · skip
                  intro e30
                  (try simp only [e30, Kn.eta, Pi.eta, Pu.eta, Rg.eta, Sc.eta, Sc.eta_r, Sc.eta_k, Sc.eta_2])
                  (try clear e30)
                  all_goals
                    refine congrArg some ?_
                    (cases hk : okop op l <;> simp_all)
                · skip
                  all_goals
                    refine congrArg some ?_
                    (cases hk : okop op l <;> simp_all)
              · skip
                all_goals
                  refine congrArg some ?_
                  (cases hk : okop op l <;> simp_all)
            · skip
              all_goals
                refine congrArg some ?_
                (cases hk : okop op l <;> simp_all)
          · skip
            all_goals
              refine congrArg some ?_
              (cases hk : okop op l <;> simp_all)
        · skip
          all_goals
            refine congrArg some ?_
            (cases hk : okop op l <;> simp_all)
      · skip
        all_goals
          refine congrArg some ?_
          (cases hk : okop op l <;> simp_all)
def sM_lsing (key : Nat) : Sm := ⟨7, key, [(false, [.int .i8]), (false, [.int .i8]), (false, [.int .u64]), (false, [.int .u64])], [(false, [.bool])], false⟩
def sI_lsing : Nat → List Int → Int
  | _, _ => 0
def sB_lsing : Nat → List Int → Bool
  | 0, [x0, x1, x2, x3] => (fun (op : Int) (l : Int) (v : Int) (x : Int) => true) x0 x1 x2 x3
  | _, _ => false
theorem sK_lsing {sp : Spec} {key : Nat} (hI : sp.I key = sI_lsing) (hB : sp.B key = sB_lsing) : SmOk Try.prog sp (sM_lsing key) := by
  refine SmOk.of (.inl ⟨run_enter Try.func7 (by kernel_rfl) (by kernel_rfl), fun xs vals h => ?_⟩) (.inr (.inr ⟨_, rfl⟩))
  obtain ⟨_, _, _, d1, h1, rfl⟩ := shO h
  obtain ⟨x0, rfl, rfl, gx0⟩ := ckI d1
  obtain ⟨_, _, _, d2, h2, rfl⟩ := shO h1
  obtain ⟨x1, rfl, rfl, gx1⟩ := ckI d2
  obtain ⟨_, _, _, d3, h3, rfl⟩ := shO h2
  obtain ⟨x2, rfl, rfl, gx2⟩ := ckI d3
  obtain ⟨_, _, _, d4, h4, rfl⟩ := shO h3
  obtain ⟨x3, rfl, rfl, gx3⟩ := ckI d4
  obtain ⟨rfl, rfl⟩ := shN h4
  refine ⟨_, sX_lsing x0 gx0 x1 gx1 x2 gx2 x3 gx3, fun ρ v0 he => ?_⟩
  have he' : ρ.b (v0 + 0) = sp.B key 0 [x0, x1, x2, x3] ∧ True := he
  simp only [hI, hB] at he'
  obtain ⟨e0, -⟩ := he'
  show some (.bool (ρ.b (v0 + 0)) : Value) = _
  rw [e0]
  rfl
set_option maxRecDepth 100000 in
theorem law_ValueSingles (a0 : Int) (w0 : (Lit.int .i8 a0).wf = true) (a1 : Int) (w1 : (Lit.int .i8 a1).wf = true) (a2 : Int) (w2 : (Lit.int .u64 a2).wf = true) (a3 : Int) (w3 : (Lit.int .u64 a3).wf = true) (W : World) :
    Calls Try.prog 7 #[.int .i8 a0, .int .i8 a1, .int .u64 a2, .int .u64 a3] W fun e W' => e = .returned (.bool true) ∧ Below W.heap.size W W' := by
  exact (sX_lsing a0 w0 a1 w1 a2 w2 a3 w3).1 W
end Go.Proofs.Ytcngfmhhaleoaaa
