/- Contract of Do of package bounds, by the symbolic run. -/
import Derived.Test.YtcngfmhhaleoaaaXbC
import Derived.Test.YtcngfmhhaleoaaaProg
import Derived.Laws.Externs
set_option linter.unusedVariables false
set_option linter.unusedSimpArgs false
namespace Go.Proofs.Ytcngfmhhaleoaaa
open Go.RowKit Go.ChangeShapes Go.WideShapes

def tys_XbD : List (Nat × TI) := [(2, ⟨false, 1, [.int .i64 (.lit 0)], [], none, some .i64, false, false⟩),
  (3, ⟨false, 1, [.int .i64 (.lit 0)], [], none, some .i64, false, false⟩),
  (22, ⟨false, 1, [.int .u64 (.lit 0)], [], none, some .u64, false, false⟩),
  (24, ⟨true, 4, [.int .u64 (.lit 0), .int .u64 (.lit 0), .int .i64 (.lit 0), .int .i64 (.lit 0)], [(0, 22), (1, 22), (2, 2), (3, 2)], none, none, false, false⟩),
  (33, ⟨false, 1, [.int .i8 (.lit 0)], [], none, some .i8, false, false⟩),
  (75, ⟨false, 1, [.int .u64 (.lit 0)], [], none, some .u64, false, false⟩)]
set_option maxRecDepth 100000 in
theorem tysck_XbD : (tys_XbD.all fun p => ckTI Try.prog p.1 p.2) = true := by kernel_rfl
theorem tysne_XbD : (tys_XbD.all fun p => !p.2.eqok) = true := by kernel_rfl
theorem tysok_XbD : ∀ t i, (t, i) ∈ tys_XbD → TIok Try.prog t i := by
  intro t i h
  have h1 := all_at (f := fun _ i => !i.eqok) tysne_XbD h
  exact TIok_of (all_at (f := ckTI Try.prog) tysck_XbD h) (fun he => by simp [he] at h1) (fun he => by simp [he] at h1)
def sT_do : Tr :=
(.call 0 [.bool] (.cons (.var 1) (.cons (.var 2) (.cons (.var 3) (.cons (.var 4) .nil)))) 9
 (.br (.bvar 9)
 (.call 0 [.bool] (.cons (.var 5) (.cons (.var 6) (.cons (.var 7) (.cons (.var 8) .nil)))) 10
  (.br (.bvar 10)
  (.call 1 [.int .u64, .int .u64, .int .i64, .int .i64] .nil 11
   (.call 2 [.int .u64, .bool] (.cons (.var 5) (.cons (.var 6) (.cons (.var 7) (.cons (.var 8) .nil)))) 15
   (.call 3 [.int .i64] (.cons (.mx (.var 2) (.var 6)) .nil) 17
   (.br (.lt (.var 17) (.lit 0))
   .panic
   (.br (.eq (.var 0) (.lit 11))
    (.call 6 [.int .u64, .int .u64, .int .i64, .int .i64] (.cons (.var 5) (.cons (.var 6) (.cons (.var 7) (.cons (.var 8) .nil)))) 18
     (.leaf (.agg [.int .u64 (.var 18), .int .u64 (.var 19), .int .i64 (.var 20), .int .i64 (.var 21)])))
    (.br (.eq (.var 0) (.lit 0))
     (.call 5 [.int .u64, .int .u64, .int .i64, .int .i64] (.cons (.var 1) (.cons (.var 2) (.cons (.var 3) (.cons (.var 4) (.cons (.var 5) (.cons (.var 6) (.cons (.var 7) (.cons (.var 8) (.consb (.eq (.var 0) (.lit 1)) .nil))))))))) 18
      (.call 6 [.int .u64, .int .u64, .int .i64, .int .i64] (.cons (.var 18) (.cons (.var 19) (.cons (.var 20) (.cons (.var 21) .nil)))) 22
      (.leaf (.agg [.int .u64 (.var 22), .int .u64 (.var 23), .int .i64 (.var 24), .int .i64 (.var 25)]))))
     (.br (.eq (.var 0) (.lit 1))
      (.call 5 [.int .u64, .int .u64, .int .i64, .int .i64] (.cons (.var 1) (.cons (.var 2) (.cons (.var 3) (.cons (.var 4) (.cons (.var 5) (.cons (.var 6) (.cons (.var 7) (.cons (.var 8) (.consb (.eq (.var 0) (.lit 1)) .nil))))))))) 18
       (.call 6 [.int .u64, .int .u64, .int .i64, .int .i64] (.cons (.var 18) (.cons (.var 19) (.cons (.var 20) (.cons (.var 21) .nil)))) 22
       (.leaf (.agg [.int .u64 (.var 22), .int .u64 (.var 23), .int .i64 (.var 24), .int .i64 (.var 25)]))))
      (.br (.eq (.var 0) (.lit 5))
       (.call 6 [.int .u64, .int .u64, .int .i64, .int .i64] (.cons (.var 11) (.cons (.mn (.var 2) (.var 6)) (.cons (.var 13) (.cons (.var 14) .nil)))) 18
        (.leaf (.agg [.int .u64 (.var 18), .int .u64 (.var 19), .int .i64 (.var 20), .int .i64 (.var 21)])))
       (.br (.eq (.var 0) (.lit 4))
        (.call 6 [.int .u64, .int .u64, .int .i64, .int .i64] (.cons (.mx (.var 1) (.var 5)) (.cons (.bin .sub .u64 (.bin .shl .u64 (.lit 1) (.var 17)) (.lit 1)) (.cons (.var 13) (.cons (.var 14) .nil)))) 18
         (.leaf (.agg [.int .u64 (.var 18), .int .u64 (.var 19), .int .i64 (.var 20), .int .i64 (.var 21)])))
        (.br (.eq (.var 0) (.lit 10))
         (.call 6 [.int .u64, .int .u64, .int .i64, .int .i64] (.cons (.var 11) (.cons (.bin .sub .u64 (.bin .shl .u64 (.lit 1) (.var 17)) (.lit 1)) (.cons (.var 13) (.cons (.var 14) .nil)))) 18
          (.leaf (.agg [.int .u64 (.var 18), .int .u64 (.var 19), .int .i64 (.var 20), .int .i64 (.var 21)])))
         (.br (.eq (.var 0) (.lit 3))
          (.br (.lt (.lit 0) (.var 5))
           (.br (.eq (.var 6) (.lit 0))
            .panic
            (.br (.eq (.var 5) (.lit 0))
             .panic
             (.call 6 [.int .u64, .int .u64, .int .i64, .int .i64] (.cons (.bin .quo .u64 (.var 1) (.var 6)) (.cons (.bin .quo .u64 (.var 2) (.var 5)) (.cons (.var 13) (.cons (.var 14) .nil)))) 18
              (.leaf (.agg [.int .u64 (.var 18), .int .u64 (.var 19), .int .i64 (.var 20), .int .i64 (.var 21)])))))
           (.call 6 [.int .u64, .int .u64, .int .i64, .int .i64] (.cons (.var 11) (.cons (.var 2) (.cons (.var 13) (.cons (.var 14) .nil)))) 18
            (.leaf (.agg [.int .u64 (.var 18), .int .u64 (.var 19), .int .i64 (.var 20), .int .i64 (.var 21)]))))
          (.br (.eq (.var 0) (.lit 9))
           (.br (.lt (.lit 0) (.var 5))
            (.call 6 [.int .u64, .int .u64, .int .i64, .int .i64] (.cons (.var 11) (.cons (.mn (.var 2) (.bin .sub .u64 (.var 6) (.lit 1))) (.cons (.var 13) (.cons (.var 14) .nil)))) 18
             (.leaf (.agg [.int .u64 (.var 18), .int .u64 (.var 19), .int .i64 (.var 20), .int .i64 (.var 21)])))
            (.call 6 [.int .u64, .int .u64, .int .i64, .int .i64] (.cons (.var 11) (.cons (.var 2) (.cons (.var 13) (.cons (.var 14) .nil)))) 18
             (.leaf (.agg [.int .u64 (.var 18), .int .u64 (.var 19), .int .i64 (.var 20), .int .i64 (.var 21)]))))
           (.br (.eq (.var 0) (.lit 7))
            (.br (.bvar 16)
             (.call 6 [.int .u64, .int .u64, .int .i64, .int .i64] (.cons (.bin .shr .u64 (.var 1) (.bin .and .u64 (.var 15) (.lit 63))) (.cons (.bin .shr .u64 (.var 2) (.bin .and .u64 (.var 15) (.lit 63))) (.cons (.var 13) (.cons (.var 14) .nil)))) 18
              (.leaf (.agg [.int .u64 (.var 18), .int .u64 (.var 19), .int .i64 (.var 20), .int .i64 (.var 21)])))
             (.call 6 [.int .u64, .int .u64, .int .i64, .int .i64] (.cons (.var 11) (.cons (.var 12) (.cons (.var 13) (.cons (.var 14) .nil)))) 18
              (.leaf (.agg [.int .u64 (.var 18), .int .u64 (.var 19), .int .i64 (.var 20), .int .i64 (.var 21)]))))
            (.br (.eq (.var 0) (.lit 6))
             (.br (.bvar 16)
              (.call 4 [.int .i64] (.cons (.var 2) .nil) 18
               (.br (.lt (.var 18) (.conv .i64 (.bin .and .u64 (.var 15) (.lit 63))))
               (.call 6 [.int .u64, .int .u64, .int .i64, .int .i64] (.cons (.var 11) (.cons (.var 12) (.cons (.var 13) (.cons (.var 14) .nil)))) 19
                (.leaf (.agg [.int .u64 (.var 19), .int .u64 (.var 20), .int .i64 (.var 21), .int .i64 (.var 22)])))
               (.call 6 [.int .u64, .int .u64, .int .i64, .int .i64] (.cons (.bin .shl .u64 (.var 1) (.bin .and .u64 (.var 15) (.lit 63))) (.cons (.bin .shl .u64 (.var 2) (.bin .and .u64 (.var 15) (.lit 63))) (.cons (.var 13) (.cons (.var 14) .nil)))) 19
                (.leaf (.agg [.int .u64 (.var 19), .int .u64 (.var 20), .int .i64 (.var 21), .int .i64 (.var 22)])))))
              (.call 6 [.int .u64, .int .u64, .int .i64, .int .i64] (.cons (.var 11) (.cons (.var 12) (.cons (.var 13) (.cons (.var 14) .nil)))) 18
               (.leaf (.agg [.int .u64 (.var 18), .int .u64 (.var 19), .int .i64 (.var 20), .int .i64 (.var 21)]))))
             (.call 6 [.int .u64, .int .u64, .int .i64, .int .i64] (.cons (.var 11) (.cons (.var 12) (.cons (.var 13) (.cons (.var 14) .nil)))) 18
              (.leaf (.agg [.int .u64 (.var 18), .int .u64 (.var 19), .int .i64 (.var 20), .int .i64 (.var 21)])))))))))))))))))
  (.call 1 [.int .u64, .int .u64, .int .i64, .int .i64] .nil 11
   (.leaf (.agg [.int .u64 (.var 11), .int .u64 (.var 12), .int .i64 (.var 13), .int .i64 (.var 14)])))))
 (.call 1 [.int .u64, .int .u64, .int .i64, .int .i64] .nil 10
  (.leaf (.agg [.int .u64 (.var 10), .int .u64 (.var 11), .int .i64 (.var 12), .int .i64 (.var 13)])))))
def sP_do : Spec := ⟨fun k => match k with | 0 => sI_may | 1 => sI_all | 2 => sI_single | 3 => sI_len | 4 => sI_lz | 5 => sI_sum | 6 => sI_nard | _ => fun _ _ => 0, fun k => match k with | 0 => sB_may | 1 => sB_all | 2 => sB_single | 3 => sB_len | 4 => sB_lz | 5 => sB_sum | 6 => sB_nard | _ => fun _ _ => false⟩
set_option maxRecDepth 100000 in
theorem sR_do : funK ⟨tys_XbD, [sM_may 0, sM_all 1, sM_single 2, sM_len 3, sM_lz 4, sM_sum 5, sM_nard 6]⟩ 200 Try.f32 [.one (.int .i8 (.var 0)), .agg [.int .u64 (.var 1), .int .u64 (.var 2), .int .i64 (.var 3), .int .i64 (.var 4)], .agg [.int .u64 (.var 5), .int .u64 (.var 6), .int .i64 (.var 7), .int .i64 (.var 8)]] ⟨[], [], [some .i8, some .u64, some .u64, some .i64, some .i64, some .u64, some .u64, some .i64, some .i64]⟩ = sT_do := by kernel_rfl
set_option maxRecDepth 100000 in
set_option maxHeartbeats 8000000 in
theorem sX_do (op : Int) (hop : inK .i8 op = true) (a : Rg) (ha : Rg.ok a) (b : Rg) (hb : Rg.ok b) : (∀ w, Calls Try.prog 32 #[.int .i8 op, .agg #[.int .u64 a.ul, .int .u64 a.uh, .int .i64 a.sl, .int .i64 a.sh], .agg #[.int .u64 b.ul, .int .u64 b.uh, .int .i64 b.sl, .int .i64 b.sh]] w fun e w' => e = .returned (.agg #[.int .u64 (bdo op a b).ul, .int .u64 (bdo op a b).uh, .int .i64 (bdo op a b).sl, .int .i64 (bdo op a b).sh]) ∧ Ext w w') ∧ valIn (.agg #[.int .u64 (bdo op a b).ul, .int .u64 (bdo op a b).uh, .int .i64 (bdo op a b).sl, .int .i64 (bdo op a b).sh]) = true := by
  refine fun_calls (cx := ⟨tys_XbD, [sM_may 0, sM_all 1, sM_single 2, sM_len 3, sM_lz 4, sM_sum 5, sM_nard 6]⟩) (sp := sP_do) (t := sT_do) (by kernel_rfl) tysok_XbD (List.forall_mem_cons.2 ⟨sK_may rfl rfl, List.forall_mem_cons.2 ⟨sK_all rfl rfl, List.forall_mem_cons.2 ⟨sK_single rfl rfl, List.forall_mem_cons.2 ⟨sK_len rfl rfl, List.forall_mem_cons.2 ⟨sK_lz rfl rfl, List.forall_mem_cons.2 ⟨sK_sum rfl rfl, List.forall_mem_cons.2 ⟨sK_nard rfl rfl, fun _ h => (by cases h)⟩⟩⟩⟩⟩⟩⟩) (keys_of (by kernel_rfl)) Try.func32 ⟨fun n => ([op, a.ul, a.uh, a.sl, a.sh, b.ul, b.uh, b.sl, b.sh] : List Int).getD n 0, fun n => ([false, false, false, false, false, false, false, false, false] : List Bool).getD n false⟩ sR_do (by kernel_rfl) ?_ rfl (by intro p hp; cases hp) ?_ ?_
  · intro n k hk
    have hlt : n < 9 := by
      rcases Nat.lt_or_ge n 9 with h | h
      · exact h
      · rw [List.getElem?_eq_none h] at hk; cases hk
    rcases (show n = 0 ∨ n = 1 ∨ n = 2 ∨ n = 3 ∨ n = 4 ∨ n = 5 ∨ n = 6 ∨ n = 7 ∨ n = 8 by omega) with rfl | rfl | rfl | rfl | rfl | rfl | rfl | rfl | rfl
    · cases hk; exact hop
    · cases hk; exact ha.1
    · cases hk; exact ha.2.1
    · cases hk; exact ha.2.2.1
    · cases hk; exact ha.2.2.2
    · cases hk; exact hb.1
    · cases hk; exact hb.2.1
    · cases hk; exact hb.2.2.1
    · cases hk; exact hb.2.2.2
  · intro ρ hag
    have g0 : ρ.i 0 = op := (hag 0 (by decide)).1.symm
    have g1 : ρ.i 1 = a.ul := (hag 1 (by decide)).1.symm
    have g2 : ρ.i 2 = a.uh := (hag 2 (by decide)).1.symm
    have g3 : ρ.i 3 = a.sl := (hag 3 (by decide)).1.symm
    have g4 : ρ.i 4 = a.sh := (hag 4 (by decide)).1.symm
    have g5 : ρ.i 5 = b.ul := (hag 5 (by decide)).1.symm
    have g6 : ρ.i 6 = b.uh := (hag 6 (by decide)).1.symm
    have g7 : ρ.i 7 = b.sl := (hag 7 (by decide)).1.symm
    have g8 : ρ.i 8 = b.sh := (hag 8 (by decide)).1.symm
    show some ([.int .i8 (ρ.i 0), .agg #[.int .u64 (ρ.i 1), .int .u64 (ρ.i 2), .int .i64 (ρ.i 3), .int .i64 (ρ.i 4)], .agg #[.int .u64 (ρ.i 5), .int .u64 (ρ.i 6), .int .i64 (ρ.i 7), .int .i64 (ρ.i 8)]] : List Value) = _
    rw [g0, g1, g2, g3, g4, g5, g6, g7, g8]
  · intro ρ hag
    have g0 : ρ.i 0 = op := (hag 0 (by decide)).1.symm
    have g1 : ρ.i 1 = a.ul := (hag 1 (by decide)).1.symm
    have g2 : ρ.i 2 = a.uh := (hag 2 (by decide)).1.symm
    have g3 : ρ.i 3 = a.sl := (hag 3 (by decide)).1.symm
    have g4 : ρ.i 4 = a.sh := (hag 4 (by decide)).1.symm
    have g5 : ρ.i 5 = b.ul := (hag 5 (by decide)).1.symm
    have g6 : ρ.i 6 = b.uh := (hag 6 (by decide)).1.symm
    have g7 : ρ.i 7 = b.sl := (hag 7 (by decide)).1.symm
    have g8 : ρ.i 8 = b.sh := (hag 8 (by decide)).1.symm
    simp only [sT_do, Tr.asks, eqs, E.I, E.B, E.L, V.den, C.den, denL, den0, den0L, Option.map_some, Nat.add_zero, Nat.reduceAdd, and_true, Rg.eta, g0, g1, g2, g3, g4, g5, g6, g7, g8]
    simp only [sP_do, b01, Pi.eta, Pu.eta, Rg.eta, sI_may, sB_may, sI_all, sB_all, sI_single, sB_single, sI_len, sB_len, sI_lz, sB_lz, sI_sum, sB_sum, sI_nard, sB_nard]
    intro e9
    (try simp only [e9, Pi.eta, Pu.eta, Rg.eta])
    (try clear e9)
    refine ⟨fun c0 => ?_, fun c0 => ?_⟩
    · skip
      intro e10
      (try simp only [e10, Pi.eta, Pu.eta, Rg.eta])
      (try clear e10)
      refine ⟨fun c1 => ?_, fun c1 => ?_⟩
      · skip
        rintro ⟨e11, e12, e13, e14⟩
        (try simp only [e11, e12, e13, e14, Pi.eta, Pu.eta, Rg.eta])
        (try clear e11 e12 e13 e14)
        rintro ⟨e15, e16⟩
        (try simp only [e15, e16, Pi.eta, Pu.eta, Rg.eta])
        (try clear e15 e16)
        intro e17
        (try simp only [e17, Pi.eta, Pu.eta, Rg.eta])
        (try clear e17)
        refine ⟨fun c2 => ?_, fun c2 => ?_⟩
        · skip
          show False
          exact absurd (of_decide_eq_true c2) (by omega)
        · skip
          refine ⟨fun c3 => ?_, fun c3 => ?_⟩
          · skip
            rintro ⟨e18, e19, e20, e21⟩
            (try simp only [e18, e19, e20, e21, Pi.eta, Pu.eta, Rg.eta])
            (try clear e18 e19 e20 e21)
            all_goals
              refine congrArg some ?_
              exact agg_Rg (dq_11 ha hb c0 c1 c3)
          · skip
            refine ⟨fun c4 => ?_, fun c4 => ?_⟩
            · skip
              rintro ⟨e18, e19, e20, e21⟩
              (try simp only [e18, e19, e20, e21, Pi.eta, Pu.eta, Rg.eta])
              (try clear e18 e19 e20 e21)
              rintro ⟨e22, e23, e24, e25⟩
              (try simp only [e22, e23, e24, e25, Pi.eta, Pu.eta, Rg.eta])
              (try clear e22 e23 e24 e25)
              all_goals
                refine congrArg some ?_
                exact agg_Rg (dq_0 ha hb c0 c1 c4)
            · skip
              refine ⟨fun c5 => ?_, fun c5 => ?_⟩
              · skip
                rintro ⟨e18, e19, e20, e21⟩
                (try simp only [e18, e19, e20, e21, Pi.eta, Pu.eta, Rg.eta])
                (try clear e18 e19 e20 e21)
                rintro ⟨e22, e23, e24, e25⟩
                (try simp only [e22, e23, e24, e25, Pi.eta, Pu.eta, Rg.eta])
                (try clear e22 e23 e24 e25)
                all_goals
                  refine congrArg some ?_
                  exact agg_Rg (dq_1 ha hb c0 c1 c5)
              · skip
                refine ⟨fun c6 => ?_, fun c6 => ?_⟩
                · skip
                  rintro ⟨e18, e19, e20, e21⟩
                  (try simp only [e18, e19, e20, e21, Pi.eta, Pu.eta, Rg.eta])
                  (try clear e18 e19 e20 e21)
                  all_goals
                    refine congrArg some ?_
                    exact agg_Rg (dq_5 ha hb c0 c1 c6)
                · skip
                  refine ⟨fun c7 => ?_, fun c7 => ?_⟩
                  · skip
                    rintro ⟨e18, e19, e20, e21⟩
                    (try simp only [e18, e19, e20, e21, Pi.eta, Pu.eta, Rg.eta])
                    (try clear e18 e19 e20 e21)
                    all_goals
                      refine congrArg some ?_
                      exact agg_Rg (dq_4 ha hb c0 c1 c7)
                  · skip
                    refine ⟨fun c8 => ?_, fun c8 => ?_⟩
                    · skip
                      rintro ⟨e18, e19, e20, e21⟩
                      (try simp only [e18, e19, e20, e21, Pi.eta, Pu.eta, Rg.eta])
                      (try clear e18 e19 e20 e21)
                      all_goals
                        refine congrArg some ?_
                        exact agg_Rg (dq_10 ha hb c0 c1 c8)
                    · skip
                      refine ⟨fun c9 => ?_, fun c9 => ?_⟩
                      · skip
                        refine ⟨fun c10 => ?_, fun c10 => ?_⟩
                        · skip
                          refine ⟨fun c11 => ?_, fun c11 => ?_⟩
                          · skip
                            show False
                            (have hm := (bmay_iff b).1 c1; have h1 := of_decide_eq_true c10; have h2 := eqz c11; omega)
                          · skip
                            refine ⟨fun c12 => ?_, fun c12 => ?_⟩
                            · skip
                              show False
                              (have hm := (bmay_iff b).1 c1; have h1 := of_decide_eq_true c10; have h2 := eqz c12; omega)
                            · skip
                              rintro ⟨e18, e19, e20, e21⟩
                              (try simp only [e18, e19, e20, e21, Pi.eta, Pu.eta, Rg.eta])
                              (try clear e18 e19 e20 e21)
                              all_goals
                                refine congrArg some ?_
                                exact agg_Rg (dq_3 ha hb c0 c1 c9 c10)
                        · skip
                          rintro ⟨e18, e19, e20, e21⟩
                          (try simp only [e18, e19, e20, e21, Pi.eta, Pu.eta, Rg.eta])
                          (try clear e18 e19 e20 e21)
                          all_goals
                            refine congrArg some ?_
                            exact agg_Rg (dq_3n ha hb c0 c1 c9 c10)
                      · skip
                        refine ⟨fun c13 => ?_, fun c13 => ?_⟩
                        · skip
                          refine ⟨fun c14 => ?_, fun c14 => ?_⟩
                          · skip
                            rintro ⟨e18, e19, e20, e21⟩
                            (try simp only [e18, e19, e20, e21, Pi.eta, Pu.eta, Rg.eta])
                            (try clear e18 e19 e20 e21)
                            all_goals
                              refine congrArg some ?_
                              exact agg_Rg (dq_9 ha hb c0 c1 c13 c14)
                          · skip
                            rintro ⟨e18, e19, e20, e21⟩
                            (try simp only [e18, e19, e20, e21, Pi.eta, Pu.eta, Rg.eta])
                            (try clear e18 e19 e20 e21)
                            all_goals
                              refine congrArg some ?_
                              exact agg_Rg (dq_9n ha hb c0 c1 c13 c14)
                        · skip
                          refine ⟨fun c15 => ?_, fun c15 => ?_⟩
                          · skip
                            refine ⟨fun c16 => ?_, fun c16 => ?_⟩
                            · skip
                              rintro ⟨e18, e19, e20, e21⟩
                              (try simp only [e18, e19, e20, e21, Pi.eta, Pu.eta, Rg.eta])
                              (try clear e18 e19 e20 e21)
                              all_goals
                                refine congrArg some ?_
                                exact agg_Rg (dq_7 ha hb c0 c1 c15 c16)
                            · skip
                              rintro ⟨e18, e19, e20, e21⟩
                              (try simp only [e18, e19, e20, e21, Pi.eta, Pu.eta, Rg.eta])
                              (try clear e18 e19 e20 e21)
                              all_goals
                                refine congrArg some ?_
                                exact agg_Rg (dq_7n ha hb c0 c1 c15 c16)
                          · skip
                            refine ⟨fun c17 => ?_, fun c17 => ?_⟩
                            · skip
                              refine ⟨fun c18 => ?_, fun c18 => ?_⟩
                              · skip
                                intro e18
                                (try simp only [e18, Pi.eta, Pu.eta, Rg.eta])
                                (try clear e18)
                                refine ⟨fun c19 => ?_, fun c19 => ?_⟩
                                · skip
                                  rintro ⟨e19, e20, e21, e22⟩
                                  (try simp only [e19, e20, e21, e22, Pi.eta, Pu.eta, Rg.eta])
                                  (try clear e19 e20 e21 e22)
                                  all_goals
                                    refine congrArg some ?_
                                    exact agg_Rg (dq_6n ha hb c0 c1 c17 c18 c19)
                                · skip
                                  rintro ⟨e19, e20, e21, e22⟩
                                  (try simp only [e19, e20, e21, e22, Pi.eta, Pu.eta, Rg.eta])
                                  (try clear e19 e20 e21 e22)
                                  all_goals
                                    refine congrArg some ?_
                                    exact agg_Rg (dq_6 ha hb c0 c1 c17 c18 c19)
                              · skip
                                rintro ⟨e18, e19, e20, e21⟩
                                (try simp only [e18, e19, e20, e21, Pi.eta, Pu.eta, Rg.eta])
                                (try clear e18 e19 e20 e21)
                                all_goals
                                  refine congrArg some ?_
                                  exact agg_Rg (dq_6m ha hb c0 c1 c17 c18)
                            · skip
                              rintro ⟨e18, e19, e20, e21⟩
                              (try simp only [e18, e19, e20, e21, Pi.eta, Pu.eta, Rg.eta])
                              (try clear e18 e19 e20 e21)
                              all_goals
                                refine congrArg some ?_
                                exact agg_Rg (dq_x ha hb c0 c1 c3 c4 c5 c6 c7 c8 c9 c13 c15 c17)
      · skip
        rintro ⟨e11, e12, e13, e14⟩
        (try simp only [e11, e12, e13, e14, Pi.eta, Pu.eta, Rg.eta])
        (try clear e11 e12 e13 e14)
        all_goals
          refine congrArg some ?_
          exact agg_Rg (dq_bad (.inr c1))
    · skip
      rintro ⟨e10, e11, e12, e13⟩
      (try simp only [e10, e11, e12, e13, Pi.eta, Pu.eta, Rg.eta])
      (try clear e10 e11 e12 e13)
      all_goals
        refine congrArg some ?_
        exact agg_Rg (dq_bad (.inl c0))
def sM_do (key : Nat) : Sm := ⟨32, key, [(false, [.int .i8]), (true, [.int .u64, .int .u64, .int .i64, .int .i64]), (true, [.int .u64, .int .u64, .int .i64, .int .i64])], [(true, [.int .u64, .int .u64, .int .i64, .int .i64])], false⟩
def sI_do : Nat → List Int → Int
  | 0, [x0, x1, x2, x3, x4, x5, x6, x7, x8] => (fun (op : Int) (a : Rg) (b : Rg) => (bdo op a b).ul) x0 ⟨x1, x2, x3, x4⟩ ⟨x5, x6, x7, x8⟩
  | 1, [x0, x1, x2, x3, x4, x5, x6, x7, x8] => (fun (op : Int) (a : Rg) (b : Rg) => (bdo op a b).uh) x0 ⟨x1, x2, x3, x4⟩ ⟨x5, x6, x7, x8⟩
  | 2, [x0, x1, x2, x3, x4, x5, x6, x7, x8] => (fun (op : Int) (a : Rg) (b : Rg) => (bdo op a b).sl) x0 ⟨x1, x2, x3, x4⟩ ⟨x5, x6, x7, x8⟩
  | 3, [x0, x1, x2, x3, x4, x5, x6, x7, x8] => (fun (op : Int) (a : Rg) (b : Rg) => (bdo op a b).sh) x0 ⟨x1, x2, x3, x4⟩ ⟨x5, x6, x7, x8⟩
  | _, _ => 0
def sB_do : Nat → List Int → Bool
  | _, _ => false
theorem sK_do {sp : Spec} {key : Nat} (hI : sp.I key = sI_do) (hB : sp.B key = sB_do) : SmOk Try.prog sp (sM_do key) := by
  refine SmOk.of (.inl ⟨run_enter Try.func32 (by kernel_rfl) (by kernel_rfl), fun xs vals h => ?_⟩) (.inr (.inl ⟨_, rfl⟩))
  obtain ⟨_, _, _, d1, h1, rfl⟩ := shO h
  obtain ⟨x0, rfl, rfl, gx0⟩ := ckI d1
  obtain ⟨_, _, _, p2, h2, rfl⟩ := shA h1
  obtain ⟨_, _, _, d2_0, p2_0, rfl⟩ := cksC p2
  obtain ⟨x1, rfl, rfl, gx1⟩ := ckI d2_0
  obtain ⟨_, _, _, d2_1, p2_1, rfl⟩ := cksC p2_0
  obtain ⟨x2, rfl, rfl, gx2⟩ := ckI d2_1
  obtain ⟨_, _, _, d2_2, p2_2, rfl⟩ := cksC p2_1
  obtain ⟨x3, rfl, rfl, gx3⟩ := ckI d2_2
  obtain ⟨_, _, _, d2_3, p2_3, rfl⟩ := cksC p2_2
  obtain ⟨x4, rfl, rfl, gx4⟩ := ckI d2_3
  obtain ⟨rfl, rfl⟩ := cksN p2_3
  obtain ⟨_, _, _, p3, h3, rfl⟩ := shA h2
  obtain ⟨_, _, _, d3_0, p3_0, rfl⟩ := cksC p3
  obtain ⟨x5, rfl, rfl, gx5⟩ := ckI d3_0
  obtain ⟨_, _, _, d3_1, p3_1, rfl⟩ := cksC p3_0
  obtain ⟨x6, rfl, rfl, gx6⟩ := ckI d3_1
  obtain ⟨_, _, _, d3_2, p3_2, rfl⟩ := cksC p3_1
  obtain ⟨x7, rfl, rfl, gx7⟩ := ckI d3_2
  obtain ⟨_, _, _, d3_3, p3_3, rfl⟩ := cksC p3_2
  obtain ⟨x8, rfl, rfl, gx8⟩ := ckI d3_3
  obtain ⟨rfl, rfl⟩ := cksN p3_3
  obtain ⟨rfl, rfl⟩ := shN h3
  refine ⟨_, sX_do x0 gx0 ⟨x1, x2, x3, x4⟩ ⟨gx1, gx2, gx3, gx4⟩ ⟨x5, x6, x7, x8⟩ ⟨gx5, gx6, gx7, gx8⟩, fun ρ v0 he => ?_⟩
  have he' : ρ.i (v0 + 0) = sp.I key 0 [x0, x1, x2, x3, x4, x5, x6, x7, x8] ∧ ρ.i (v0 + 1) = sp.I key 1 [x0, x1, x2, x3, x4, x5, x6, x7, x8] ∧ ρ.i (v0 + 2) = sp.I key 2 [x0, x1, x2, x3, x4, x5, x6, x7, x8] ∧ ρ.i (v0 + 3) = sp.I key 3 [x0, x1, x2, x3, x4, x5, x6, x7, x8] ∧ True := he
  simp only [hI, hB] at he'
  obtain ⟨e0, e1, e2, e3, -⟩ := he'
  show some (.agg #[.int .u64 (ρ.i (v0 + 0)), .int .u64 (ρ.i (v0 + 1)), .int .i64 (ρ.i (v0 + 2)), .int .i64 (ρ.i (v0 + 3))] : Value) = _
  rw [e0, e1, e2, e3]
  rfl
end Go.Proofs.Ytcngfmhhaleoaaa
