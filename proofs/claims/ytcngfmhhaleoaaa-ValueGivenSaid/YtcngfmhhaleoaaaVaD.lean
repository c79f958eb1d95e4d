/- The law ValueGiven, by the symbolic run. -/
import Derived.Test.YtcngfmhhaleoaaaVaC
import Derived.Test.YtcngfmhhaleoaaaVlZ
import Derived.Test.YtcngfmhhaleoaaaXbF
import Derived.Test.YtcngfmhhaleoaaaVaQ
import Derived.Test.YtcngfmhhaleoaaaProg
import Derived.Laws.Externs
set_option linter.unusedVariables false
set_option linter.unusedSimpArgs false
namespace Go.Proofs.Ytcngfmhhaleoaaa
open Go.RowKit Go.ChangeShapes Go.WideShapes

def tys_VaD : List (Nat × TI) := [(2, ⟨false, 1, [.int .i64 (.lit 0)], [], none, some .i64, false, false⟩),
  (22, ⟨false, 1, [.int .u64 (.lit 0)], [], none, some .u64, false, false⟩),
  (24, ⟨true, 4, [.int .u64 (.lit 0), .int .u64 (.lit 0), .int .i64 (.lit 0), .int .i64 (.lit 0)], [(0, 22), (1, 22), (2, 2), (3, 2)], none, none, false, false⟩),
  (42, ⟨false, 1, [.int .i64 (.lit 0)], [], none, some .i64, false, false⟩),
  (50, ⟨true, 2, [.int .u64 (.lit 0), .int .u64 (.lit 0)], [(0, 22), (1, 22)], none, none, false, false⟩),
  (52, ⟨true, 6, [.int .u64 (.lit 0), .int .u64 (.lit 0), .int .i64 (.lit 0), .int .i64 (.lit 0), .int .u64 (.lit 0), .int .u64 (.lit 0)], [(0, 24), (4, 50)], none, none, false, false⟩)]
set_option maxRecDepth 100000 in
theorem tysck_VaD : (tys_VaD.all fun p => ckTI Try.prog p.1 p.2) = true := by kernel_rfl
theorem tysne_VaD : (tys_VaD.all fun p => !p.2.eqok) = true := by kernel_rfl
theorem tysok_VaD : ∀ t i, (t, i) ∈ tys_VaD → TIok Try.prog t i := by
  intro t i h
  have h1 := all_at (f := fun _ i => !i.eqok) tysne_VaD h
  exact TIok_of (all_at (f := ckTI Try.prog) tysck_VaD h) (fun he => by simp [he] at h1) (fun he => by simp [he] at h1)
def sT_lgiv : Tr :=
(.call 0 [.bool] (.cons (.var 1) (.cons (.var 2) (.cons (.var 3) (.cons (.var 4) (.cons (.var 5) (.cons (.var 6) (.cons (.var 13) .nil))))))) 15
 (.br (.bvar 15)
 (.call 0 [.bool] (.cons (.var 7) (.cons (.var 8) (.cons (.var 9) (.cons (.var 10) (.cons (.var 11) (.cons (.var 12) (.cons (.var 14) .nil))))))) 16
  (.br (.bvar 16)
  (.call 2 [.bool, .int .i64] (.cons (.var 0) (.cons (.lit 64) (.cons (.var 13) (.cons (.var 14) .nil)))) 17
   (.call 3 [.int .u64, .int .u64, .int .i64, .int .i64, .int .u64, .int .u64, .bool] (.cons (.var 0) (.cons (.var 1) (.cons (.var 2) (.cons (.var 3) (.cons (.var 4) (.cons (.var 5) (.cons (.var 6) (.cons (.var 7) (.cons (.var 8) (.cons (.var 9) (.cons (.var 10) (.cons (.var 11) (.cons (.var 12) .nil))))))))))))) 19
   (.br (.eq (.var 18) (.lit 0))
   (.br (.bvar 17)
    (.br (.bvar 25)
     (.call 0 [.bool] (.cons (.var 19) (.cons (.var 20) (.cons (.var 21) (.cons (.var 22) (.cons (.var 23) (.cons (.var 24) (.cons (.var 13) .nil))))))) 26
      (.br (.bvar 26)
      (.call 1 [.bool] .nil 27
       (.leaf (.one (.bool (.bvar 27)))))
      (.leaf (.one (.bool (.tt false))))))
     (.leaf (.one (.bool (.tt false)))))
    (.call 1 [.bool] .nil 26
     (.leaf (.one (.bool (.bvar 26))))))
   (.call 1 [.bool] .nil 26
    (.leaf (.one (.bool (.bvar 26))))))))
  (.call 1 [.bool] .nil 17
   (.leaf (.one (.bool (.bvar 17)))))))
 (.call 1 [.bool] .nil 16
  (.leaf (.one (.bool (.bvar 16)))))))
def sP_lgiv : Spec := ⟨fun k => match k with | 0 => sI_vhas | 1 => sI_vwakes | 2 => sI_holds | 3 => sI_vgiv | _ => fun _ _ => 0, fun k => match k with | 0 => sB_vhas | 1 => sB_vwakes | 2 => sB_holds | 3 => sB_vgiv | _ => fun _ _ => false⟩
set_option maxRecDepth 100000 in
theorem sR_lgiv : funK ⟨tys_VaD, [sM_vhas 0, sM_vwakes 1, sM_holds 2, sM_vgiv 3]⟩ 200 Try.f10 [.one (.int .i8 (.var 0)), .agg [.int .u64 (.var 1), .int .u64 (.var 2), .int .i64 (.var 3), .int .i64 (.var 4), .int .u64 (.var 5), .int .u64 (.var 6)], .agg [.int .u64 (.var 7), .int .u64 (.var 8), .int .i64 (.var 9), .int .i64 (.var 10), .int .u64 (.var 11), .int .u64 (.var 12)], .one (.int .u64 (.var 13)), .one (.int .u64 (.var 14))] ⟨[], [], [some .i8, some .u64, some .u64, some .i64, some .i64, some .u64, some .u64, some .u64, some .u64, some .i64, some .i64, some .u64, some .u64, some .u64, some .u64]⟩ = sT_lgiv := by kernel_rfl
set_option maxRecDepth 100000 in
set_option maxHeartbeats 8000000 in
theorem sX_lgiv (cc : Int) (hcc : inK .i8 cc = true) (a : Sc) (ha : Sc.ok a) (b : Sc) (hb : Sc.ok b) (v : Int) (hv : inK .u64 v = true) (x : Int) (hx : inK .u64 x = true) : (∀ w, Calls Try.prog 10 #[.int .i8 cc, .agg #[.int .u64 a.ul, .int .u64 a.uh, .int .i64 a.sl, .int .i64 a.sh, .int .u64 a.v, .int .u64 a.m], .agg #[.int .u64 b.ul, .int .u64 b.uh, .int .i64 b.sl, .int .i64 b.sh, .int .u64 b.v, .int .u64 b.m], .int .u64 v, .int .u64 x] w fun e w' => e = .returned (.bool true) ∧ Ext w w') ∧ valIn (.bool true) = true := by
  refine fun_calls (cx := ⟨tys_VaD, [sM_vhas 0, sM_vwakes 1, sM_holds 2, sM_vgiv 3]⟩) (sp := sP_lgiv) (t := sT_lgiv) (by kernel_rfl) tysok_VaD (List.forall_mem_cons.2 ⟨sK_vhas rfl rfl, List.forall_mem_cons.2 ⟨sK_vwakes rfl rfl, List.forall_mem_cons.2 ⟨sK_holds rfl rfl, List.forall_mem_cons.2 ⟨sK_vgiv rfl rfl, fun _ h => (by cases h)⟩⟩⟩⟩) (keys_of (by kernel_rfl)) Try.func10 ⟨fun n => ([cc, a.ul, a.uh, a.sl, a.sh, a.v, a.m, b.ul, b.uh, b.sl, b.sh, b.v, b.m, v, x] : List Int).getD n 0, fun n => ([false, false, false, false, false, false, false, false, false, false, false, false, false, false, false] : List Bool).getD n false⟩ sR_lgiv (by kernel_rfl) ?_ rfl (by intro p hp; cases hp) ?_ ?_
  · intro n k hk
    have hlt : n < 15 := by
      rcases Nat.lt_or_ge n 15 with h | h
      · exact h
      · rw [List.getElem?_eq_none h] at hk; cases hk
    rcases (show n = 0 ∨ n = 1 ∨ n = 2 ∨ n = 3 ∨ n = 4 ∨ n = 5 ∨ n = 6 ∨ n = 7 ∨ n = 8 ∨ n = 9 ∨ n = 10 ∨ n = 11 ∨ n = 12 ∨ n = 13 ∨ n = 14 by omega) with rfl | rfl | rfl | rfl | rfl | rfl | rfl | rfl | rfl | rfl | rfl | rfl | rfl | rfl | rfl
    · cases hk; exact hcc
    · cases hk; exact ha.1
    · cases hk; exact ha.2.1
    · cases hk; exact ha.2.2.1
    · cases hk; exact ha.2.2.2.1
    · cases hk; exact ha.2.2.2.2.1
    · cases hk; exact ha.2.2.2.2.2
    · cases hk; exact hb.1
    · cases hk; exact hb.2.1
    · cases hk; exact hb.2.2.1
    · cases hk; exact hb.2.2.2.1
    · cases hk; exact hb.2.2.2.2.1
    · cases hk; exact hb.2.2.2.2.2
    · cases hk; exact hv
    · cases hk; exact hx
  · intro ρ hag
    have g0 : ρ.i 0 = cc := (hag 0 (by decide)).1.symm
    have g1 : ρ.i 1 = a.ul := (hag 1 (by decide)).1.symm
    have g2 : ρ.i 2 = a.uh := (hag 2 (by decide)).1.symm
    have g3 : ρ.i 3 = a.sl := (hag 3 (by decide)).1.symm
    have g4 : ρ.i 4 = a.sh := (hag 4 (by decide)).1.symm
    have g5 : ρ.i 5 = a.v := (hag 5 (by decide)).1.symm
    have g6 : ρ.i 6 = a.m := (hag 6 (by decide)).1.symm
    have g7 : ρ.i 7 = b.ul := (hag 7 (by decide)).1.symm
    have g8 : ρ.i 8 = b.uh := (hag 8 (by decide)).1.symm
    have g9 : ρ.i 9 = b.sl := (hag 9 (by decide)).1.symm
    have g10 : ρ.i 10 = b.sh := (hag 10 (by decide)).1.symm
    have g11 : ρ.i 11 = b.v := (hag 11 (by decide)).1.symm
    have g12 : ρ.i 12 = b.m := (hag 12 (by decide)).1.symm
    have g13 : ρ.i 13 = v := (hag 13 (by decide)).1.symm
    have g14 : ρ.i 14 = x := (hag 14 (by decide)).1.symm
    show some ([.int .i8 (ρ.i 0), .agg #[.int .u64 (ρ.i 1), .int .u64 (ρ.i 2), .int .i64 (ρ.i 3), .int .i64 (ρ.i 4), .int .u64 (ρ.i 5), .int .u64 (ρ.i 6)], .agg #[.int .u64 (ρ.i 7), .int .u64 (ρ.i 8), .int .i64 (ρ.i 9), .int .i64 (ρ.i 10), .int .u64 (ρ.i 11), .int .u64 (ρ.i 12)], .int .u64 (ρ.i 13), .int .u64 (ρ.i 14)] : List Value) = _
    rw [g0, g1, g2, g3, g4, g5, g6, g7, g8, g9, g10, g11, g12, g13, g14]
  · intro ρ hag
    have g0 : ρ.i 0 = cc := (hag 0 (by decide)).1.symm
    have g1 : ρ.i 1 = a.ul := (hag 1 (by decide)).1.symm
    have g2 : ρ.i 2 = a.uh := (hag 2 (by decide)).1.symm
    have g3 : ρ.i 3 = a.sl := (hag 3 (by decide)).1.symm
    have g4 : ρ.i 4 = a.sh := (hag 4 (by decide)).1.symm
    have g5 : ρ.i 5 = a.v := (hag 5 (by decide)).1.symm
    have g6 : ρ.i 6 = a.m := (hag 6 (by decide)).1.symm
    have g7 : ρ.i 7 = b.ul := (hag 7 (by decide)).1.symm
    have g8 : ρ.i 8 = b.uh := (hag 8 (by decide)).1.symm
    have g9 : ρ.i 9 = b.sl := (hag 9 (by decide)).1.symm
    have g10 : ρ.i 10 = b.sh := (hag 10 (by decide)).1.symm
    have g11 : ρ.i 11 = b.v := (hag 11 (by decide)).1.symm
    have g12 : ρ.i 12 = b.m := (hag 12 (by decide)).1.symm
    have g13 : ρ.i 13 = v := (hag 13 (by decide)).1.symm
    have g14 : ρ.i 14 = x := (hag 14 (by decide)).1.symm
    simp only [sT_lgiv, Tr.asks, eqs, E.I, E.B, E.L, V.den, C.den, denL, den0, den0L, Option.map_some, Nat.add_zero, Nat.reduceAdd, and_true, Sc.eta, Sc.eta_r, Sc.eta_k, Sc.eta_2, g0, g1, g2, g3, g4, g5, g6, g7, g8, g9, g10, g11, g12, g13, g14]
    simp only [sP_lgiv, b01, Kn.eta, Pi.eta, Pu.eta, Rg.eta, Sc.eta, Sc.eta_r, Sc.eta_k, Sc.eta_2, sI_vhas, sB_vhas, sI_vwakes, sB_vwakes, sI_holds, sB_holds, sI_vgiv, sB_vgiv]
    have wa := Sc.wf_of ha
    have wb := Sc.wf_of hb
    have gv := inK_u64 hv
    have gx := inK_u64 hx
    have f1 : vhas a v = true → vhas b x = true → okcc cc 64 = true → zhold cc 64 v x = true → vgok cc a b = true := fun h1 h2 h3 h4 => (vgiv_has wa wb gv gx h1 h2 h3 h4).1
    have f2 : vhas a v = true → vhas b x = true → okcc cc 64 = true → zhold cc 64 v x = true → vhas (vgiv cc a b) v = true := fun h1 h2 h3 h4 => (vgiv_has wa wb gv gx h1 h2 h3 h4).2
    intro e15
    (try simp only [e15, Kn.eta, Pi.eta, Pu.eta, Rg.eta, Sc.eta, Sc.eta_r, Sc.eta_k, Sc.eta_2])
    (try clear e15)
    refine ⟨fun c0 => ?_, fun c0 => ?_⟩
    · skip
      intro e16
      (try simp only [e16, Kn.eta, Pi.eta, Pu.eta, Rg.eta, Sc.eta, Sc.eta_r, Sc.eta_k, Sc.eta_2])
      (try clear e16)
      refine ⟨fun c1 => ?_, fun c1 => ?_⟩
      · skip
        rintro ⟨e17, e18⟩
        (try simp only [e17, e18, Kn.eta, Pi.eta, Pu.eta, Rg.eta, Sc.eta, Sc.eta_r, Sc.eta_k, Sc.eta_2])
        (try clear e17 e18)
        rintro ⟨e19, e20, e21, e22, e23, e24, e25⟩
        (try simp only [e19, e20, e21, e22, e23, e24, e25, Kn.eta, Pi.eta, Pu.eta, Rg.eta, Sc.eta, Sc.eta_r, Sc.eta_k, Sc.eta_2])
        (try clear e19 e20 e21 e22 e23 e24 e25)
        refine ⟨fun c2 => ?_, fun c2 => ?_⟩
        · skip
          refine ⟨fun c3 => ?_, fun c3 => ?_⟩
          · skip
            refine ⟨fun c4 => ?_, fun c4 => ?_⟩
            · skip
              intro e26
              (try simp only [e26, Kn.eta, Pi.eta, Pu.eta, Rg.eta, Sc.eta, Sc.eta_r, Sc.eta_k, Sc.eta_2])
              (try clear e26)
              refine ⟨fun c5 => ?_, fun c5 => ?_⟩
              · skip
                intro e27
                (try simp only [e27, Kn.eta, Pi.eta, Pu.eta, Rg.eta, Sc.eta, Sc.eta_r, Sc.eta_k, Sc.eta_2])
                (try clear e27)
                all_goals
                  refine congrArg some ?_
                  (by_cases hk : okcc cc 64 = true <;> simp_all)
              · skip
                all_goals
                  refine congrArg some ?_
                  (by_cases hk : okcc cc 64 = true <;> simp_all)
            · skip
              all_goals
                refine congrArg some ?_
                (by_cases hk : okcc cc 64 = true <;> simp_all)
          · skip
            intro e26
            (try simp only [e26, Kn.eta, Pi.eta, Pu.eta, Rg.eta, Sc.eta, Sc.eta_r, Sc.eta_k, Sc.eta_2])
            (try clear e26)
            all_goals
              refine congrArg some ?_
              (by_cases hk : okcc cc 64 = true <;> simp_all)
        · skip
          intro e26
          (try simp only [e26, Kn.eta, Pi.eta, Pu.eta, Rg.eta, Sc.eta, Sc.eta_r, Sc.eta_k, Sc.eta_2])
          (try clear e26)
          all_goals
            refine congrArg some ?_
            (by_cases hk : okcc cc 64 = true <;> simp_all)
      · skip
        intro e17
        (try simp only [e17, Kn.eta, Pi.eta, Pu.eta, Rg.eta, Sc.eta, Sc.eta_r, Sc.eta_k, Sc.eta_2])
        (try clear e17)
        all_goals
          refine congrArg some ?_
          (by_cases hk : okcc cc 64 = true <;> simp_all)
    · skip
      intro e16
      (try simp only [e16, Kn.eta, Pi.eta, Pu.eta, Rg.eta, Sc.eta, Sc.eta_r, Sc.eta_k, Sc.eta_2])
      (try clear e16)
      all_goals
        refine congrArg some ?_
        (by_cases hk : okcc cc 64 = true <;> simp_all)
def sM_lgiv (key : Nat) : Sm := ⟨10, key, [(false, [.int .i8]), (true, [.int .u64, .int .u64, .int .i64, .int .i64, .int .u64, .int .u64]), (true, [.int .u64, .int .u64, .int .i64, .int .i64, .int .u64, .int .u64]), (false, [.int .u64]), (false, [.int .u64])], [(false, [.bool])], false⟩
def sI_lgiv : Nat → List Int → Int
  | _, _ => 0
def sB_lgiv : Nat → List Int → Bool
  | 0, [x0, x1, x2, x3, x4, x5, x6, x7, x8, x9, x10, x11, x12, x13, x14] => (fun (cc : Int) (a : Sc) (b : Sc) (v : Int) (x : Int) => true) x0 ⟨x1, x2, x3, x4, x5, x6⟩ ⟨x7, x8, x9, x10, x11, x12⟩ x13 x14
  | _, _ => false
theorem sK_lgiv {sp : Spec} {key : Nat} (hI : sp.I key = sI_lgiv) (hB : sp.B key = sB_lgiv) : SmOk Try.prog sp (sM_lgiv key) := by
  refine SmOk.of (.inl ⟨run_enter Try.func10 (by kernel_rfl) (by kernel_rfl), fun xs vals h => ?_⟩) (.inr (.inr ⟨_, rfl⟩))
  obtain ⟨_, _, _, d1, h1, rfl⟩ := shO h
  obtain ⟨x0, rfl, rfl, gx0⟩ := ckI d1
  obtain ⟨_, _, _, p2, h2, rfl⟩ := shA h1
  obtain ⟨_, _, _, d2_0, p2_0, rfl⟩ := cksC p2
  obtain ⟨x1, rfl, rfl, gx1⟩ := ckI d2_0
  obtain ⟨_, _, _, d2_1, p2_1, rfl⟩ := cksC p2_0
  obtain ⟨x2, rfl, rfl, gx2⟩ := ckI d2_1
  obtain ⟨_, _, _, d2_2, p2_2, rfl⟩ := cksC p2_1
  obtain ⟨x3, rfl, rfl, gx3⟩ := ckI d2_2
  obtain ⟨_, _, _, d2_3, p2_3, rfl⟩ := cksC p2_2
  obtain ⟨x4, rfl, rfl, gx4⟩ := ckI d2_3
  obtain ⟨_, _, _, d2_4, p2_4, rfl⟩ := cksC p2_3
  obtain ⟨x5, rfl, rfl, gx5⟩ := ckI d2_4
  obtain ⟨_, _, _, d2_5, p2_5, rfl⟩ := cksC p2_4
  obtain ⟨x6, rfl, rfl, gx6⟩ := ckI d2_5
  obtain ⟨rfl, rfl⟩ := cksN p2_5
  obtain ⟨_, _, _, p3, h3, rfl⟩ := shA h2
  obtain ⟨_, _, _, d3_0, p3_0, rfl⟩ := cksC p3
  obtain ⟨x7, rfl, rfl, gx7⟩ := ckI d3_0
  obtain ⟨_, _, _, d3_1, p3_1, rfl⟩ := cksC p3_0
  obtain ⟨x8, rfl, rfl, gx8⟩ := ckI d3_1
  obtain ⟨_, _, _, d3_2, p3_2, rfl⟩ := cksC p3_1
  obtain ⟨x9, rfl, rfl, gx9⟩ := ckI d3_2
  obtain ⟨_, _, _, d3_3, p3_3, rfl⟩ := cksC p3_2
  obtain ⟨x10, rfl, rfl, gx10⟩ := ckI d3_3
  obtain ⟨_, _, _, d3_4, p3_4, rfl⟩ := cksC p3_3
  obtain ⟨x11, rfl, rfl, gx11⟩ := ckI d3_4
  obtain ⟨_, _, _, d3_5, p3_5, rfl⟩ := cksC p3_4
  obtain ⟨x12, rfl, rfl, gx12⟩ := ckI d3_5
  obtain ⟨rfl, rfl⟩ := cksN p3_5
  obtain ⟨_, _, _, d4, h4, rfl⟩ := shO h3
  obtain ⟨x13, rfl, rfl, gx13⟩ := ckI d4
  obtain ⟨_, _, _, d5, h5, rfl⟩ := shO h4
  obtain ⟨x14, rfl, rfl, gx14⟩ := ckI d5
  obtain ⟨rfl, rfl⟩ := shN h5
  refine ⟨_, sX_lgiv x0 gx0 ⟨x1, x2, x3, x4, x5, x6⟩ ⟨gx1, gx2, gx3, gx4, gx5, gx6⟩ ⟨x7, x8, x9, x10, x11, x12⟩ ⟨gx7, gx8, gx9, gx10, gx11, gx12⟩ x13 gx13 x14 gx14, fun ρ v0 he => ?_⟩
  have he' : ρ.b (v0 + 0) = sp.B key 0 [x0, x1, x2, x3, x4, x5, x6, x7, x8, x9, x10, x11, x12, x13, x14] ∧ True := he
  simp only [hI, hB] at he'
  obtain ⟨e0, -⟩ := he'
  show some (.bool (ρ.b (v0 + 0)) : Value) = _
  rw [e0]
  rfl
set_option maxRecDepth 100000 in
theorem law_ValueGiven {H : Type} {enc : TypeId × Value → H} {W : World} {r : Reach} {b0 : Nat} (a0 : Int) (w0 : (Lit.int .i8 a0).wf = true) (v1 : Value) (k1 : Value.okWide Try.prog W r b0 52 v1) (d1 : DataW H) (p1 : List MemPlace) (h1 : DataW.Trod enc Try.prog W 0 (fun _ => true) true 52 v1 d1 p1) (_ : ∀ x ∈ p1, x.block < W.heap.size) (v2 : Value) (k2 : Value.okWide Try.prog W r b0 52 v2) (d2 : DataW H) (p2 : List MemPlace) (h2 : DataW.Trod enc Try.prog W 0 (fun _ => true) true 52 v2 d2 p2) (_ : ∀ x ∈ p2, x.block < W.heap.size) (a3 : Int) (w3 : (Lit.int .u64 a3).wf = true) (a4 : Int) (w4 : (Lit.int .u64 a4).wf = true) :
    Calls Try.prog 10 #[.int .i8 a0, v1, v2, .int .u64 a3, .int .u64 a4] W fun e W' => e = .returned (.bool true) ∧ Below W.heap.size W W' := by
  obtain ⟨q1, rfl, g1⟩ := Sc.of_arg k1 h1
  obtain ⟨q2, rfl, g2⟩ := Sc.of_arg k2 h2
  exact (sX_lgiv a0 w0 q1 (Sc.ok_of g1) q2 (Sc.ok_of g2) a3 w3 a4 w4).1 W
end Go.Proofs.Ytcngfmhhaleoaaa
