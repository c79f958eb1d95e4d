/- Contracts of Do and Given of the document's own package of layer 7, by the symbolic run. -/
import Derived.Test.YtcngfmhhaleoaaaXbN
import Derived.Test.YtcngfmhhaleoaaaProg
import Derived.Laws.Externs
set_option linter.unusedVariables false
set_option linter.unusedSimpArgs false
namespace Go.Proofs.Ytcngfmhhaleoaaa
open Go.RowKit Go.ChangeShapes Go.WideShapes

def tys_XbO : List (Nat × TI) := [(2, ⟨false, 1, [.int .i64 (.lit 0)], [], none, some .i64, false, false⟩),
  (22, ⟨false, 1, [.int .u64 (.lit 0)], [], none, some .u64, false, false⟩),
  (24, ⟨true, 4, [.int .u64 (.lit 0), .int .u64 (.lit 0), .int .i64 (.lit 0), .int .i64 (.lit 0)], [(0, 22), (1, 22), (2, 2), (3, 2)], none, none, false, false⟩),
  (33, ⟨false, 1, [.int .i8 (.lit 0)], [], none, some .i8, false, false⟩)]
set_option maxRecDepth 100000 in
theorem tysck_XbO : (tys_XbO.all fun p => ckTI Try.prog p.1 p.2) = true := by kernel_rfl
theorem tysne_XbO : (tys_XbO.all fun p => !p.2.eqok) = true := by kernel_rfl
theorem tysok_XbO : ∀ t i, (t, i) ∈ tys_XbO → TIok Try.prog t i := by
  intro t i h
  have h1 := all_at (f := fun _ i => !i.eqok) tysne_XbO h
  exact TIok_of (all_at (f := ckTI Try.prog) tysck_XbO h) (fun he => by simp [he] at h1) (fun he => by simp [he] at h1)
def sT_rdo : Tr :=
(.call 1 [.int .u64, .int .u64, .int .i64, .int .i64] .nil 9
 (.call 0 [.bool] (.cons (.var 1) (.cons (.var 2) (.cons (.var 3) (.cons (.var 4) .nil)))) 13
 (.br (.bvar 13)
 (.call 0 [.bool] (.cons (.var 5) (.cons (.var 6) (.cons (.var 7) (.cons (.var 8) .nil)))) 14
  (.br (.bvar 14)
  (.call 2 [.int .u64, .bool] (.cons (.var 5) (.cons (.var 6) (.cons (.var 7) (.cons (.var 8) .nil)))) 15
   (.br (.eq (.var 0) (.lit 11))
   (.call 6 [.int .u64, .int .u64, .int .i64, .int .i64] (.cons (.var 5) (.cons (.var 6) (.cons (.var 7) (.cons (.var 8) .nil)))) 17
    (.leaf (.agg [.int .u64 (.var 17), .int .u64 (.var 18), .int .i64 (.var 19), .int .i64 (.var 20)])))
   (.br (.eq (.var 0) (.lit 0))
    (.br (.lt (.bin .add .u64 (.var 2) (.var 6)) (.var 2))
     (.call 3 [.int .i64, .bool] (.cons (.var 3) (.cons (.var 7) .nil)) 17
      (.call 3 [.int .i64, .bool] (.cons (.var 4) (.cons (.var 8) .nil)) 19
      (.br (.bvar 18)
      (.br (.bvar 20)
       (.call 6 [.int .u64, .int .u64, .int .i64, .int .i64] (.cons (.var 9) (.cons (.var 10) (.cons (.var 17) (.cons (.var 19) .nil)))) 21
        (.leaf (.agg [.int .u64 (.var 21), .int .u64 (.var 22), .int .i64 (.var 23), .int .i64 (.var 24)])))
       (.call 6 [.int .u64, .int .u64, .int .i64, .int .i64] (.cons (.var 9) (.cons (.var 10) (.cons (.var 11) (.cons (.var 12) .nil)))) 21
        (.leaf (.agg [.int .u64 (.var 21), .int .u64 (.var 22), .int .i64 (.var 23), .int .i64 (.var 24)]))))
      (.call 6 [.int .u64, .int .u64, .int .i64, .int .i64] (.cons (.var 9) (.cons (.var 10) (.cons (.var 11) (.cons (.var 12) .nil)))) 21
       (.leaf (.agg [.int .u64 (.var 21), .int .u64 (.var 22), .int .i64 (.var 23), .int .i64 (.var 24)]))))))
     (.call 3 [.int .i64, .bool] (.cons (.var 3) (.cons (.var 7) .nil)) 17
      (.call 3 [.int .i64, .bool] (.cons (.var 4) (.cons (.var 8) .nil)) 19
      (.br (.bvar 18)
      (.br (.bvar 20)
       (.call 6 [.int .u64, .int .u64, .int .i64, .int .i64] (.cons (.bin .add .u64 (.var 1) (.var 5)) (.cons (.bin .add .u64 (.var 2) (.var 6)) (.cons (.var 17) (.cons (.var 19) .nil)))) 21
        (.leaf (.agg [.int .u64 (.var 21), .int .u64 (.var 22), .int .i64 (.var 23), .int .i64 (.var 24)])))
       (.call 6 [.int .u64, .int .u64, .int .i64, .int .i64] (.cons (.bin .add .u64 (.var 1) (.var 5)) (.cons (.bin .add .u64 (.var 2) (.var 6)) (.cons (.var 11) (.cons (.var 12) .nil)))) 21
        (.leaf (.agg [.int .u64 (.var 21), .int .u64 (.var 22), .int .i64 (.var 23), .int .i64 (.var 24)]))))
      (.call 6 [.int .u64, .int .u64, .int .i64, .int .i64] (.cons (.bin .add .u64 (.var 1) (.var 5)) (.cons (.bin .add .u64 (.var 2) (.var 6)) (.cons (.var 11) (.cons (.var 12) .nil)))) 21
       (.leaf (.agg [.int .u64 (.var 21), .int .u64 (.var 22), .int .i64 (.var 23), .int .i64 (.var 24)])))))))
    (.br (.eq (.var 0) (.lit 1))
     (.br (.lt (.var 1) (.var 6))
      (.call 4 [.int .i64, .bool] (.cons (.var 3) (.cons (.var 8) .nil)) 17
       (.call 4 [.int .i64, .bool] (.cons (.var 4) (.cons (.var 7) .nil)) 19
       (.br (.bvar 18)
       (.br (.bvar 20)
        (.call 6 [.int .u64, .int .u64, .int .i64, .int .i64] (.cons (.var 9) (.cons (.var 10) (.cons (.var 17) (.cons (.var 19) .nil)))) 21
         (.leaf (.agg [.int .u64 (.var 21), .int .u64 (.var 22), .int .i64 (.var 23), .int .i64 (.var 24)])))
        (.call 6 [.int .u64, .int .u64, .int .i64, .int .i64] (.cons (.var 9) (.cons (.var 10) (.cons (.var 11) (.cons (.var 12) .nil)))) 21
         (.leaf (.agg [.int .u64 (.var 21), .int .u64 (.var 22), .int .i64 (.var 23), .int .i64 (.var 24)]))))
       (.call 6 [.int .u64, .int .u64, .int .i64, .int .i64] (.cons (.var 9) (.cons (.var 10) (.cons (.var 11) (.cons (.var 12) .nil)))) 21
        (.leaf (.agg [.int .u64 (.var 21), .int .u64 (.var 22), .int .i64 (.var 23), .int .i64 (.var 24)]))))))
      (.call 4 [.int .i64, .bool] (.cons (.var 3) (.cons (.var 8) .nil)) 17
       (.call 4 [.int .i64, .bool] (.cons (.var 4) (.cons (.var 7) .nil)) 19
       (.br (.bvar 18)
       (.br (.bvar 20)
        (.call 6 [.int .u64, .int .u64, .int .i64, .int .i64] (.cons (.bin .sub .u64 (.var 1) (.var 6)) (.cons (.bin .sub .u64 (.var 2) (.var 5)) (.cons (.var 17) (.cons (.var 19) .nil)))) 21
         (.leaf (.agg [.int .u64 (.var 21), .int .u64 (.var 22), .int .i64 (.var 23), .int .i64 (.var 24)])))
        (.call 6 [.int .u64, .int .u64, .int .i64, .int .i64] (.cons (.bin .sub .u64 (.var 1) (.var 6)) (.cons (.bin .sub .u64 (.var 2) (.var 5)) (.cons (.var 11) (.cons (.var 12) .nil)))) 21
         (.leaf (.agg [.int .u64 (.var 21), .int .u64 (.var 22), .int .i64 (.var 23), .int .i64 (.var 24)]))))
       (.call 6 [.int .u64, .int .u64, .int .i64, .int .i64] (.cons (.bin .sub .u64 (.var 1) (.var 6)) (.cons (.bin .sub .u64 (.var 2) (.var 5)) (.cons (.var 11) (.cons (.var 12) .nil)))) 21
        (.leaf (.agg [.int .u64 (.var 21), .int .u64 (.var 22), .int .i64 (.var 23), .int .i64 (.var 24)])))))))
     (.br (.eq (.var 0) (.lit 5))
      (.call 6 [.int .u64, .int .u64, .int .i64, .int .i64] (.cons (.var 9) (.cons (.mn (.var 2) (.var 6)) (.cons (.var 11) (.cons (.var 12) .nil)))) 17
       (.leaf (.agg [.int .u64 (.var 17), .int .u64 (.var 18), .int .i64 (.var 19), .int .i64 (.var 20)])))
      (.br (.eq (.var 0) (.lit 4))
       (.call 5 [.int .u64] (.cons (.mx (.var 2) (.var 6)) .nil) 17
        (.call 6 [.int .u64, .int .u64, .int .i64, .int .i64] (.cons (.mx (.var 1) (.var 5)) (.cons (.var 17) (.cons (.var 11) (.cons (.var 12) .nil)))) 18
        (.leaf (.agg [.int .u64 (.var 18), .int .u64 (.var 19), .int .i64 (.var 20), .int .i64 (.var 21)]))))
       (.br (.eq (.var 0) (.lit 10))
        (.call 5 [.int .u64] (.cons (.mx (.var 2) (.var 6)) .nil) 17
         (.call 6 [.int .u64, .int .u64, .int .i64, .int .i64] (.cons (.var 9) (.cons (.var 17) (.cons (.var 11) (.cons (.var 12) .nil)))) 18
         (.leaf (.agg [.int .u64 (.var 18), .int .u64 (.var 19), .int .i64 (.var 20), .int .i64 (.var 21)]))))
        (.br (.eq (.var 0) (.lit 3))
         (.br (.lt (.lit 0) (.var 5))
          (.br (.eq (.var 6) (.lit 0))
           .panic
           (.br (.eq (.var 5) (.lit 0))
            .panic
            (.call 6 [.int .u64, .int .u64, .int .i64, .int .i64] (.cons (.bin .quo .u64 (.var 1) (.var 6)) (.cons (.bin .quo .u64 (.var 2) (.var 5)) (.cons (.var 11) (.cons (.var 12) .nil)))) 17
             (.leaf (.agg [.int .u64 (.var 17), .int .u64 (.var 18), .int .i64 (.var 19), .int .i64 (.var 20)])))))
          (.call 6 [.int .u64, .int .u64, .int .i64, .int .i64] (.cons (.var 9) (.cons (.var 2) (.cons (.var 11) (.cons (.var 12) .nil)))) 17
           (.leaf (.agg [.int .u64 (.var 17), .int .u64 (.var 18), .int .i64 (.var 19), .int .i64 (.var 20)]))))
         (.br (.eq (.var 0) (.lit 9))
          (.br (.lt (.lit 0) (.var 5))
           (.call 6 [.int .u64, .int .u64, .int .i64, .int .i64] (.cons (.var 9) (.cons (.mn (.var 2) (.bin .sub .u64 (.var 6) (.lit 1))) (.cons (.var 11) (.cons (.var 12) .nil)))) 17
            (.leaf (.agg [.int .u64 (.var 17), .int .u64 (.var 18), .int .i64 (.var 19), .int .i64 (.var 20)])))
           (.call 6 [.int .u64, .int .u64, .int .i64, .int .i64] (.cons (.var 9) (.cons (.var 2) (.cons (.var 11) (.cons (.var 12) .nil)))) 17
            (.leaf (.agg [.int .u64 (.var 17), .int .u64 (.var 18), .int .i64 (.var 19), .int .i64 (.var 20)]))))
          (.br (.eq (.var 0) (.lit 7))
           (.br (.bvar 16)
            (.call 6 [.int .u64, .int .u64, .int .i64, .int .i64] (.cons (.bin .shr .u64 (.var 1) (.bin .rem .u64 (.var 15) (.lit 64))) (.cons (.bin .shr .u64 (.var 2) (.bin .rem .u64 (.var 15) (.lit 64))) (.cons (.var 11) (.cons (.var 12) .nil)))) 17
             (.leaf (.agg [.int .u64 (.var 17), .int .u64 (.var 18), .int .i64 (.var 19), .int .i64 (.var 20)])))
            (.call 6 [.int .u64, .int .u64, .int .i64, .int .i64] (.cons (.var 9) (.cons (.var 10) (.cons (.var 11) (.cons (.var 12) .nil)))) 17
             (.leaf (.agg [.int .u64 (.var 17), .int .u64 (.var 18), .int .i64 (.var 19), .int .i64 (.var 20)]))))
           (.br (.eq (.var 0) (.lit 6))
            (.br (.bvar 16)
             (.br (.eq (.bin .shr .u64 (.bin .shl .u64 (.var 2) (.bin .rem .u64 (.var 15) (.lit 64))) (.bin .rem .u64 (.var 15) (.lit 64))) (.var 2))
              (.call 6 [.int .u64, .int .u64, .int .i64, .int .i64] (.cons (.bin .shl .u64 (.var 1) (.bin .rem .u64 (.var 15) (.lit 64))) (.cons (.bin .shl .u64 (.var 2) (.bin .rem .u64 (.var 15) (.lit 64))) (.cons (.var 11) (.cons (.var 12) .nil)))) 17
               (.leaf (.agg [.int .u64 (.var 17), .int .u64 (.var 18), .int .i64 (.var 19), .int .i64 (.var 20)])))
              (.call 6 [.int .u64, .int .u64, .int .i64, .int .i64] (.cons (.var 9) (.cons (.var 10) (.cons (.var 11) (.cons (.var 12) .nil)))) 17
               (.leaf (.agg [.int .u64 (.var 17), .int .u64 (.var 18), .int .i64 (.var 19), .int .i64 (.var 20)]))))
             (.call 6 [.int .u64, .int .u64, .int .i64, .int .i64] (.cons (.var 9) (.cons (.var 10) (.cons (.var 11) (.cons (.var 12) .nil)))) 17
              (.leaf (.agg [.int .u64 (.var 17), .int .u64 (.var 18), .int .i64 (.var 19), .int .i64 (.var 20)]))))
            (.call 6 [.int .u64, .int .u64, .int .i64, .int .i64] (.cons (.var 9) (.cons (.var 10) (.cons (.var 11) (.cons (.var 12) .nil)))) 17
             (.leaf (.agg [.int .u64 (.var 17), .int .u64 (.var 18), .int .i64 (.var 19), .int .i64 (.var 20)]))))))))))))))
  (.leaf (.agg [.int .u64 (.var 9), .int .u64 (.var 10), .int .i64 (.var 11), .int .i64 (.var 12)]))))
 (.leaf (.agg [.int .u64 (.var 9), .int .u64 (.var 10), .int .i64 (.var 11), .int .i64 (.var 12)])))))
def sP_rdo : Spec := ⟨fun k => match k with | 0 => sI_rmay | 1 => sI_rall | 2 => sI_rsingle | 3 => sI_rplus | 4 => sI_rminus | 5 => sI_rfill | 6 => sI_rnard | _ => fun _ _ => 0, fun k => match k with | 0 => sB_rmay | 1 => sB_rall | 2 => sB_rsingle | 3 => sB_rplus | 4 => sB_rminus | 5 => sB_rfill | 6 => sB_rnard | _ => fun _ _ => false⟩
set_option maxRecDepth 100000 in
theorem sR_rdo : funK ⟨tys_XbO, [sM_rmay 0, sM_rall 1, sM_rsingle 2, sM_rplus 3, sM_rminus 4, sM_rfill 5, sM_rnard 6]⟩ 200 Try.f33 [.one (.int .i8 (.var 0)), .agg [.int .u64 (.var 1), .int .u64 (.var 2), .int .i64 (.var 3), .int .i64 (.var 4)], .agg [.int .u64 (.var 5), .int .u64 (.var 6), .int .i64 (.var 7), .int .i64 (.var 8)]] ⟨[], [], [some .i8, some .u64, some .u64, some .i64, some .i64, some .u64, some .u64, some .i64, some .i64]⟩ = sT_rdo := by kernel_rfl
set_option maxRecDepth 100000 in
set_option maxHeartbeats 8000000 in
theorem sX_rdo (op : Int) (hop : inK .i8 op = true) (a : Rg) (ha : Rg.ok a) (b : Rg) (hb : Rg.ok b) : (∀ w, Calls Try.prog 33 #[.int .i8 op, .agg #[.int .u64 a.ul, .int .u64 a.uh, .int .i64 a.sl, .int .i64 a.sh], .agg #[.int .u64 b.ul, .int .u64 b.uh, .int .i64 b.sl, .int .i64 b.sh]] w fun e w' => e = .returned (.agg #[.int .u64 (bdo op a b).ul, .int .u64 (bdo op a b).uh, .int .i64 (bdo op a b).sl, .int .i64 (bdo op a b).sh]) ∧ Ext w w') ∧ valIn (.agg #[.int .u64 (bdo op a b).ul, .int .u64 (bdo op a b).uh, .int .i64 (bdo op a b).sl, .int .i64 (bdo op a b).sh]) = true := by
  refine fun_calls (cx := ⟨tys_XbO, [sM_rmay 0, sM_rall 1, sM_rsingle 2, sM_rplus 3, sM_rminus 4, sM_rfill 5, sM_rnard 6]⟩) (sp := sP_rdo) (t := sT_rdo) (by kernel_rfl) tysok_XbO (List.forall_mem_cons.2 ⟨sK_rmay rfl rfl, List.forall_mem_cons.2 ⟨sK_rall rfl rfl, List.forall_mem_cons.2 ⟨sK_rsingle rfl rfl, List.forall_mem_cons.2 ⟨sK_rplus rfl rfl, List.forall_mem_cons.2 ⟨sK_rminus rfl rfl, List.forall_mem_cons.2 ⟨sK_rfill rfl rfl, List.forall_mem_cons.2 ⟨sK_rnard rfl rfl, fun _ h => (by cases h)⟩⟩⟩⟩⟩⟩⟩) (keys_of (by kernel_rfl)) Try.func33 ⟨fun n => ([op, a.ul, a.uh, a.sl, a.sh, b.ul, b.uh, b.sl, b.sh] : List Int).getD n 0, fun n => ([false, false, false, false, false, false, false, false, false] : List Bool).getD n false⟩ sR_rdo (by kernel_rfl) ?_ rfl (by intro p hp; cases hp) ?_ ?_
  · intro n k hk
    have hlt : n < 9 := by
      rcases Nat.lt_or_ge n 9 with h | h
      · exact h
      · rw [List.getElem?_eq_none h] at hk; cases hk
    rcases (show n = 0 ∨ n = 1 ∨ n = 2 ∨ n = 3 ∨ n = 4 ∨ n = 5 ∨ n = 6 ∨ n = 7 ∨ n = 8 by omega) with rfl | rfl | rfl | rfl | rfl | rfl | rfl | rfl | rfl
    · cases hk; exact hop
    · cases hk; exact ha.1
    · cases hk; exact ha.2.1
    · cases hk; exact ha.2.2.1
    · cases hk; exact ha.2.2.2
    · cases hk; exact hb.1
    · cases hk; exact hb.2.1
    · cases hk; exact hb.2.2.1
    · cases hk; exact hb.2.2.2
  · intro ρ hag
    have g0 : ρ.i 0 = op := (hag 0 (by decide)).1.symm
    have g1 : ρ.i 1 = a.ul := (hag 1 (by decide)).1.symm
    have g2 : ρ.i 2 = a.uh := (hag 2 (by decide)).1.symm
    have g3 : ρ.i 3 = a.sl := (hag 3 (by decide)).1.symm
    have g4 : ρ.i 4 = a.sh := (hag 4 (by decide)).1.symm
    have g5 : ρ.i 5 = b.ul := (hag 5 (by decide)).1.symm
    have g6 : ρ.i 6 = b.uh := (hag 6 (by decide)).1.symm
    have g7 : ρ.i 7 = b.sl := (hag 7 (by decide)).1.symm
    have g8 : ρ.i 8 = b.sh := (hag 8 (by decide)).1.symm
    show some ([.int .i8 (ρ.i 0), .agg #[.int .u64 (ρ.i 1), .int .u64 (ρ.i 2), .int .i64 (ρ.i 3), .int .i64 (ρ.i 4)], .agg #[.int .u64 (ρ.i 5), .int .u64 (ρ.i 6), .int .i64 (ρ.i 7), .int .i64 (ρ.i 8)]] : List Value) = _
    rw [g0, g1, g2, g3, g4, g5, g6, g7, g8]
  · intro ρ hag
    have g0 : ρ.i 0 = op := (hag 0 (by decide)).1.symm
    have g1 : ρ.i 1 = a.ul := (hag 1 (by decide)).1.symm
    have g2 : ρ.i 2 = a.uh := (hag 2 (by decide)).1.symm
    have g3 : ρ.i 3 = a.sl := (hag 3 (by decide)).1.symm
    have g4 : ρ.i 4 = a.sh := (hag 4 (by decide)).1.symm
    have g5 : ρ.i 5 = b.ul := (hag 5 (by decide)).1.symm
    have g6 : ρ.i 6 = b.uh := (hag 6 (by decide)).1.symm
    have g7 : ρ.i 7 = b.sl := (hag 7 (by decide)).1.symm
    have g8 : ρ.i 8 = b.sh := (hag 8 (by decide)).1.symm
    simp only [sT_rdo, Tr.asks, eqs, E.I, E.B, E.L, V.den, C.den, denL, den0, den0L, Option.map_some, Nat.add_zero, Nat.reduceAdd, and_true, Rg.eta, g0, g1, g2, g3, g4, g5, g6, g7, g8]
    simp only [sP_rdo, b01, Pi.eta, Pu.eta, Rg.eta, sI_rmay, sB_rmay, sI_rall, sB_rall, sI_rsingle, sB_rsingle, sI_rplus, sB_rplus, sI_rminus, sB_rminus, sI_rfill, sB_rfill, sI_rnard, sB_rnard]
    rintro ⟨e9, e10, e11, e12⟩
    (try simp only [e9, e10, e11, e12, Pi.eta, Pu.eta, Rg.eta])
    (try clear e9 e10 e11 e12)
    intro e13
    (try simp only [e13, Pi.eta, Pu.eta, Rg.eta])
    (try clear e13)
    refine ⟨fun c0 => ?_, fun c0 => ?_⟩
    · skip
      intro e14
      (try simp only [e14, Pi.eta, Pu.eta, Rg.eta])
      (try clear e14)
      refine ⟨fun c1 => ?_, fun c1 => ?_⟩
      · skip
        rintro ⟨e15, e16⟩
        (try simp only [e15, e16, Pi.eta, Pu.eta, Rg.eta])
        (try clear e15 e16)
        refine ⟨fun c2 => ?_, fun c2 => ?_⟩
        · skip
          rintro ⟨e17, e18, e19, e20⟩
          (try simp only [e17, e18, e19, e20, Pi.eta, Pu.eta, Rg.eta])
          (try clear e17 e18 e19 e20)
          all_goals
            refine congrArg some ?_
            exact agg_Rg (dq_11 ha hb c0 c1 c2)
        · skip
          refine ⟨fun c3 => ?_, fun c3 => ?_⟩
          · skip
            refine ⟨fun c4 => ?_, fun c4 => ?_⟩
            · skip
              rintro ⟨e17, e18⟩
              (try simp only [e17, e18, Pi.eta, Pu.eta, Rg.eta])
              (try clear e17 e18)
              rintro ⟨e19, e20⟩
              (try simp only [e19, e20, Pi.eta, Pu.eta, Rg.eta])
              (try clear e19 e20)
              refine ⟨fun c5 => ?_, fun c5 => ?_⟩
              · skip
                refine ⟨fun c6 => ?_, fun c6 => ?_⟩
                · skip
                  rintro ⟨e21, e22, e23, e24⟩
                  (try simp only [e21, e22, e23, e24, Pi.eta, Pu.eta, Rg.eta])
                  (try clear e21 e22 e23 e24)
                  all_goals
                    refine congrArg some ?_
                    exact agg_Rg (rd_0 ha hb c0 c1 c3 (ru_s0 ha hb c4) (sum_s1 c5 c6))
                · skip
                  rintro ⟨e21, e22, e23, e24⟩
                  (try simp only [e21, e22, e23, e24, Pi.eta, Pu.eta, Rg.eta])
                  (try clear e21 e22 e23 e24)
                  all_goals
                    refine congrArg some ?_
                    exact agg_Rg (rd_0 ha hb c0 c1 c3 (ru_s0 ha hb c4) (sum_s0 (.inr c6)))
              · skip
                rintro ⟨e21, e22, e23, e24⟩
                (try simp only [e21, e22, e23, e24, Pi.eta, Pu.eta, Rg.eta])
                (try clear e21 e22 e23 e24)
                all_goals
                  refine congrArg some ?_
                  exact agg_Rg (rd_0 ha hb c0 c1 c3 (ru_s0 ha hb c4) (sum_s0 (.inl c5)))
            · skip
              rintro ⟨e17, e18⟩
              (try simp only [e17, e18, Pi.eta, Pu.eta, Rg.eta])
              (try clear e17 e18)
              rintro ⟨e19, e20⟩
              (try simp only [e19, e20, Pi.eta, Pu.eta, Rg.eta])
              (try clear e19 e20)
              refine ⟨fun c7 => ?_, fun c7 => ?_⟩
              · skip
                refine ⟨fun c8 => ?_, fun c8 => ?_⟩
                · skip
                  rintro ⟨e21, e22, e23, e24⟩
                  (try simp only [e21, e22, e23, e24, Pi.eta, Pu.eta, Rg.eta])
                  (try clear e21 e22 e23 e24)
                  all_goals
                    refine congrArg some ?_
                    exact agg_Rg (rd_0 ha hb c0 c1 c3 (ru_s1 ha hb c4) (sum_s1 c7 c8))
                · skip
                  rintro ⟨e21, e22, e23, e24⟩
                  (try simp only [e21, e22, e23, e24, Pi.eta, Pu.eta, Rg.eta])
                  (try clear e21 e22 e23 e24)
                  all_goals
                    refine congrArg some ?_
                    exact agg_Rg (rd_0 ha hb c0 c1 c3 (ru_s1 ha hb c4) (sum_s0 (.inr c8)))
              · skip
                rintro ⟨e21, e22, e23, e24⟩
                (try simp only [e21, e22, e23, e24, Pi.eta, Pu.eta, Rg.eta])
                (try clear e21 e22 e23 e24)
                all_goals
                  refine congrArg some ?_
                  exact agg_Rg (rd_0 ha hb c0 c1 c3 (ru_s1 ha hb c4) (sum_s0 (.inl c7)))
          · skip
            refine ⟨fun c9 => ?_, fun c9 => ?_⟩
            · skip
              refine ⟨fun c10 => ?_, fun c10 => ?_⟩
              · skip
                rintro ⟨e17, e18⟩
                (try simp only [e17, e18, Pi.eta, Pu.eta, Rg.eta])
                (try clear e17 e18)
                rintro ⟨e19, e20⟩
                (try simp only [e19, e20, Pi.eta, Pu.eta, Rg.eta])
                (try clear e19 e20)
                refine ⟨fun c11 => ?_, fun c11 => ?_⟩
                · skip
                  refine ⟨fun c12 => ?_, fun c12 => ?_⟩
                  · skip
                    rintro ⟨e21, e22, e23, e24⟩
                    (try simp only [e21, e22, e23, e24, Pi.eta, Pu.eta, Rg.eta])
                    (try clear e21 e22 e23 e24)
                    all_goals
                      refine congrArg some ?_
                      exact agg_Rg (rd_1 ha hb c0 c1 c9 (dif_u0 c10) (dif_s1 c11 c12))
                  · skip
                    rintro ⟨e21, e22, e23, e24⟩
                    (try simp only [e21, e22, e23, e24, Pi.eta, Pu.eta, Rg.eta])
                    (try clear e21 e22 e23 e24)
                    all_goals
                      refine congrArg some ?_
                      exact agg_Rg (rd_1 ha hb c0 c1 c9 (dif_u0 c10) (dif_s0 (.inr c12)))
                · skip
                  rintro ⟨e21, e22, e23, e24⟩
                  (try simp only [e21, e22, e23, e24, Pi.eta, Pu.eta, Rg.eta])
                  (try clear e21 e22 e23 e24)
                  all_goals
                    refine congrArg some ?_
                    exact agg_Rg (rd_1 ha hb c0 c1 c9 (dif_u0 c10) (dif_s0 (.inl c11)))
              · skip
                rintro ⟨e17, e18⟩
                (try simp only [e17, e18, Pi.eta, Pu.eta, Rg.eta])
                (try clear e17 e18)
                rintro ⟨e19, e20⟩
                (try simp only [e19, e20, Pi.eta, Pu.eta, Rg.eta])
                (try clear e19 e20)
                refine ⟨fun c13 => ?_, fun c13 => ?_⟩
                · skip
                  refine ⟨fun c14 => ?_, fun c14 => ?_⟩
                  · skip
                    rintro ⟨e21, e22, e23, e24⟩
                    (try simp only [e21, e22, e23, e24, Pi.eta, Pu.eta, Rg.eta])
                    (try clear e21 e22 e23 e24)
                    all_goals
                      refine congrArg some ?_
                      exact agg_Rg (rd_1 ha hb c0 c1 c9 (dif_u1 c10) (dif_s1 c13 c14))
                  · skip
                    rintro ⟨e21, e22, e23, e24⟩
                    (try simp only [e21, e22, e23, e24, Pi.eta, Pu.eta, Rg.eta])
                    (try clear e21 e22 e23 e24)
                    all_goals
                      refine congrArg some ?_
                      exact agg_Rg (rd_1 ha hb c0 c1 c9 (dif_u1 c10) (dif_s0 (.inr c14)))
                · skip
                  rintro ⟨e21, e22, e23, e24⟩
                  (try simp only [e21, e22, e23, e24, Pi.eta, Pu.eta, Rg.eta])
                  (try clear e21 e22 e23 e24)
                  all_goals
                    refine congrArg some ?_
                    exact agg_Rg (rd_1 ha hb c0 c1 c9 (dif_u1 c10) (dif_s0 (.inl c13)))
            · skip
              refine ⟨fun c15 => ?_, fun c15 => ?_⟩
              · skip
                rintro ⟨e17, e18, e19, e20⟩
                (try simp only [e17, e18, e19, e20, Pi.eta, Pu.eta, Rg.eta])
                (try clear e17 e18 e19 e20)
                all_goals
                  refine congrArg some ?_
                  exact agg_Rg (dq_5 ha hb c0 c1 c15)
              · skip
                refine ⟨fun c16 => ?_, fun c16 => ?_⟩
                · skip
                  intro e17
                  (try simp only [e17, Pi.eta, Pu.eta, Rg.eta])
                  (try clear e17)
                  rintro ⟨e18, e19, e20, e21⟩
                  (try simp only [e18, e19, e20, e21, Pi.eta, Pu.eta, Rg.eta])
                  (try clear e18 e19 e20 e21)
                  all_goals
                    refine congrArg some ?_
                    exact agg_Rg (rd_4 ha hb c0 c1 c16)
                · skip
                  refine ⟨fun c17 => ?_, fun c17 => ?_⟩
                  · skip
                    intro e17
                    (try simp only [e17, Pi.eta, Pu.eta, Rg.eta])
                    (try clear e17)
                    rintro ⟨e18, e19, e20, e21⟩
                    (try simp only [e18, e19, e20, e21, Pi.eta, Pu.eta, Rg.eta])
                    (try clear e18 e19 e20 e21)
                    all_goals
                      refine congrArg some ?_
                      exact agg_Rg (rd_10 ha hb c0 c1 c17)
                  · skip
                    refine ⟨fun c18 => ?_, fun c18 => ?_⟩
                    · skip
                      refine ⟨fun c19 => ?_, fun c19 => ?_⟩
                      · skip
                        refine ⟨fun c20 => ?_, fun c20 => ?_⟩
                        · skip
                          show False
                          (have hm := (bmay_iff b).1 c1; have h1 := of_decide_eq_true c19; have h2 := eqz c20; omega)
                        · skip
                          refine ⟨fun c21 => ?_, fun c21 => ?_⟩
                          · skip
                            show False
                            (have hm := (bmay_iff b).1 c1; have h1 := of_decide_eq_true c19; have h2 := eqz c21; omega)
                          · skip
                            rintro ⟨e17, e18, e19, e20⟩
                            (try simp only [e17, e18, e19, e20, Pi.eta, Pu.eta, Rg.eta])
                            (try clear e17 e18 e19 e20)
                            all_goals
                              refine congrArg some ?_
                              exact agg_Rg (dq_3 ha hb c0 c1 c18 c19)
                      · skip
                        rintro ⟨e17, e18, e19, e20⟩
                        (try simp only [e17, e18, e19, e20, Pi.eta, Pu.eta, Rg.eta])
                        (try clear e17 e18 e19 e20)
                        all_goals
                          refine congrArg some ?_
                          exact agg_Rg (dq_3n ha hb c0 c1 c18 c19)
                    · skip
                      refine ⟨fun c22 => ?_, fun c22 => ?_⟩
                      · skip
                        refine ⟨fun c23 => ?_, fun c23 => ?_⟩
                        · skip
                          rintro ⟨e17, e18, e19, e20⟩
                          (try simp only [e17, e18, e19, e20, Pi.eta, Pu.eta, Rg.eta])
                          (try clear e17 e18 e19 e20)
                          all_goals
                            refine congrArg some ?_
                            exact agg_Rg (dq_9 ha hb c0 c1 c22 c23)
                        · skip
                          rintro ⟨e17, e18, e19, e20⟩
                          (try simp only [e17, e18, e19, e20, Pi.eta, Pu.eta, Rg.eta])
                          (try clear e17 e18 e19 e20)
                          all_goals
                            refine congrArg some ?_
                            exact agg_Rg (dq_9n ha hb c0 c1 c22 c23)
                      · skip
                        refine ⟨fun c24 => ?_, fun c24 => ?_⟩
                        · skip
                          refine ⟨fun c25 => ?_, fun c25 => ?_⟩
                          · skip
                            rintro ⟨e17, e18, e19, e20⟩
                            (try simp only [e17, e18, e19, e20, Pi.eta, Pu.eta, Rg.eta])
                            (try clear e17 e18 e19 e20)
                            all_goals
                              refine congrArg some ?_
                              exact agg_Rg (rd_7 ha hb c0 c1 c24 c25)
                          · skip
                            rintro ⟨e17, e18, e19, e20⟩
                            (try simp only [e17, e18, e19, e20, Pi.eta, Pu.eta, Rg.eta])
                            (try clear e17 e18 e19 e20)
                            all_goals
                              refine congrArg some ?_
                              exact agg_Rg (dq_7n ha hb c0 c1 c24 c25)
                        · skip
                          refine ⟨fun c26 => ?_, fun c26 => ?_⟩
                          · skip
                            refine ⟨fun c27 => ?_, fun c27 => ?_⟩
                            · skip
                              refine ⟨fun c28 => ?_, fun c28 => ?_⟩
                              · skip
                                rintro ⟨e17, e18, e19, e20⟩
                                (try simp only [e17, e18, e19, e20, Pi.eta, Pu.eta, Rg.eta])
                                (try clear e17 e18 e19 e20)
                                all_goals
                                  refine congrArg some ?_
                                  exact agg_Rg (rd_6 ha hb c0 c1 c26 c27 c28)
                              · skip
                                rintro ⟨e17, e18, e19, e20⟩
                                (try simp only [e17, e18, e19, e20, Pi.eta, Pu.eta, Rg.eta])
                                (try clear e17 e18 e19 e20)
                                all_goals
                                  refine congrArg some ?_
                                  exact agg_Rg (rd_6n ha hb c0 c1 c26 c27 c28)
                            · skip
                              rintro ⟨e17, e18, e19, e20⟩
                              (try simp only [e17, e18, e19, e20, Pi.eta, Pu.eta, Rg.eta])
                              (try clear e17 e18 e19 e20)
                              all_goals
                                refine congrArg some ?_
                                exact agg_Rg (dq_6m ha hb c0 c1 c26 c27)
                          · skip
                            rintro ⟨e17, e18, e19, e20⟩
                            (try simp only [e17, e18, e19, e20, Pi.eta, Pu.eta, Rg.eta])
                            (try clear e17 e18 e19 e20)
                            all_goals
                              refine congrArg some ?_
                              exact agg_Rg (dq_x ha hb c0 c1 c2 c3 c9 c15 c16 c17 c18 c22 c24 c26)
      · skip
        all_goals
          refine congrArg some ?_
          exact agg_Rg (dq_bad (.inr c1))
    · skip
      all_goals
        refine congrArg some ?_
        exact agg_Rg (dq_bad (.inl c0))
def sM_rdo (key : Nat) : Sm := ⟨33, key, [(false, [.int .i8]), (true, [.int .u64, .int .u64, .int .i64, .int .i64]), (true, [.int .u64, .int .u64, .int .i64, .int .i64])], [(true, [.int .u64, .int .u64, .int .i64, .int .i64])], false⟩
def sI_rdo : Nat → List Int → Int
  | 0, [x0, x1, x2, x3, x4, x5, x6, x7, x8] => (fun (op : Int) (a : Rg) (b : Rg) => (bdo op a b).ul) x0 ⟨x1, x2, x3, x4⟩ ⟨x5, x6, x7, x8⟩
  | 1, [x0, x1, x2, x3, x4, x5, x6, x7, x8] => (fun (op : Int) (a : Rg) (b : Rg) => (bdo op a b).uh) x0 ⟨x1, x2, x3, x4⟩ ⟨x5, x6, x7, x8⟩
  | 2, [x0, x1, x2, x3, x4, x5, x6, x7, x8] => (fun (op : Int) (a : Rg) (b : Rg) => (bdo op a b).sl) x0 ⟨x1, x2, x3, x4⟩ ⟨x5, x6, x7, x8⟩
  | 3, [x0, x1, x2, x3, x4, x5, x6, x7, x8] => (fun (op : Int) (a : Rg) (b : Rg) => (bdo op a b).sh) x0 ⟨x1, x2, x3, x4⟩ ⟨x5, x6, x7, x8⟩
  | _, _ => 0
def sB_rdo : Nat → List Int → Bool
  | _, _ => false
theorem sK_rdo {sp : Spec} {key : Nat} (hI : sp.I key = sI_rdo) (hB : sp.B key = sB_rdo) : SmOk Try.prog sp (sM_rdo key) := by
  refine SmOk.of (.inl ⟨run_enter Try.func33 (by kernel_rfl) (by kernel_rfl), fun xs vals h => ?_⟩) (.inr (.inl ⟨_, rfl⟩))
  obtain ⟨_, _, _, d1, h1, rfl⟩ := shO h
  obtain ⟨x0, rfl, rfl, gx0⟩ := ckI d1
  obtain ⟨_, _, _, p2, h2, rfl⟩ := shA h1
  obtain ⟨_, _, _, d2_0, p2_0, rfl⟩ := cksC p2
  obtain ⟨x1, rfl, rfl, gx1⟩ := ckI d2_0
  obtain ⟨_, _, _, d2_1, p2_1, rfl⟩ := cksC p2_0
  obtain ⟨x2, rfl, rfl, gx2⟩ := ckI d2_1
  obtain ⟨_, _, _, d2_2, p2_2, rfl⟩ := cksC p2_1
  obtain ⟨x3, rfl, rfl, gx3⟩ := ckI d2_2
  obtain ⟨_, _, _, d2_3, p2_3, rfl⟩ := cksC p2_2
  obtain ⟨x4, rfl, rfl, gx4⟩ := ckI d2_3
  obtain ⟨rfl, rfl⟩ := cksN p2_3
  obtain ⟨_, _, _, p3, h3, rfl⟩ := shA h2
  obtain ⟨_, _, _, d3_0, p3_0, rfl⟩ := cksC p3
  obtain ⟨x5, rfl, rfl, gx5⟩ := ckI d3_0
  obtain ⟨_, _, _, d3_1, p3_1, rfl⟩ := cksC p3_0
  obtain ⟨x6, rfl, rfl, gx6⟩ := ckI d3_1
  obtain ⟨_, _, _, d3_2, p3_2, rfl⟩ := cksC p3_1
  obtain ⟨x7, rfl, rfl, gx7⟩ := ckI d3_2
  obtain ⟨_, _, _, d3_3, p3_3, rfl⟩ := cksC p3_2
  obtain ⟨x8, rfl, rfl, gx8⟩ := ckI d3_3
  obtain ⟨rfl, rfl⟩ := cksN p3_3
  obtain ⟨rfl, rfl⟩ := shN h3
  refine ⟨_, sX_rdo x0 gx0 ⟨x1, x2, x3, x4⟩ ⟨gx1, gx2, gx3, gx4⟩ ⟨x5, x6, x7, x8⟩ ⟨gx5, gx6, gx7, gx8⟩, fun ρ v0 he => ?_⟩
  have he' : ρ.i (v0 + 0) = sp.I key 0 [x0, x1, x2, x3, x4, x5, x6, x7, x8] ∧ ρ.i (v0 + 1) = sp.I key 1 [x0, x1, x2, x3, x4, x5, x6, x7, x8] ∧ ρ.i (v0 + 2) = sp.I key 2 [x0, x1, x2, x3, x4, x5, x6, x7, x8] ∧ ρ.i (v0 + 3) = sp.I key 3 [x0, x1, x2, x3, x4, x5, x6, x7, x8] ∧ True := he
  simp only [hI, hB] at he'
  obtain ⟨e0, e1, e2, e3, -⟩ := he'
  show some (.agg #[.int .u64 (ρ.i (v0 + 0)), .int .u64 (ρ.i (v0 + 1)), .int .i64 (ρ.i (v0 + 2)), .int .i64 (ρ.i (v0 + 3))] : Value) = _
  rw [e0, e1, e2, e3]
  rfl
def sT_rgiv : Tr :=
(.call 0 [.bool] (.cons (.var 1) (.cons (.var 2) (.cons (.var 3) (.cons (.var 4) .nil)))) 9
 (.br (.bvar 9)
 (.call 0 [.bool] (.cons (.var 5) (.cons (.var 6) (.cons (.var 7) (.cons (.var 8) .nil)))) 10
  (.br (.bvar 10)
  (.br (.lt (.var 0) (.lit 0))
   (.call 1 [.int .u64, .int .u64, .int .i64, .int .i64] .nil 11
    (.leaf (.tup [(true, [.int .u64 (.var 11), .int .u64 (.var 12), .int .i64 (.var 13), .int .i64 (.var 14)]), (false, [.bool (.tt false)])])))
   (.br (.lt (.lit 10) (.var 0))
    (.call 1 [.int .u64, .int .u64, .int .i64, .int .i64] .nil 11
     (.leaf (.tup [(true, [.int .u64 (.var 11), .int .u64 (.var 12), .int .i64 (.var 13), .int .i64 (.var 14)]), (false, [.bool (.tt false)])])))
    (.br (.eq (.var 0) (.lit 0))
     (.call 2 [.int .u64, .int .u64, .int .i64, .int .i64, .bool] (.cons (.var 1) (.cons (.var 2) (.cons (.var 3) (.cons (.var 4) (.cons (.var 5) (.cons (.var 6) (.cons (.var 7) (.cons (.var 8) .nil)))))))) 11
      (.leaf (.tup [(true, [.int .u64 (.var 11), .int .u64 (.var 12), .int .i64 (.var 13), .int .i64 (.var 14)]), (false, [.bool (.bvar 15)])])))
     (.br (.eq (.var 0) (.lit 1))
      (.call 3 [.int .u64, .bool] (.cons (.var 5) (.cons (.var 6) (.cons (.var 7) (.cons (.var 8) .nil)))) 11
       (.br (.bvar 12)
       (.br (.eq (.var 1) (.var 2))
        (.br (.eq (.var 1) (.var 11))
         (.call 1 [.int .u64, .int .u64, .int .i64, .int .i64] .nil 13
          (.leaf (.tup [(true, [.int .u64 (.var 13), .int .u64 (.var 14), .int .i64 (.var 15), .int .i64 (.var 16)]), (false, [.bool (.tt false)])])))
         (.br (.eq (.var 3) (.var 4))
          (.br (.eq (.var 3) (.conv .i64 (.var 11)))
           (.call 1 [.int .u64, .int .u64, .int .i64, .int .i64] .nil 13
            (.leaf (.tup [(true, [.int .u64 (.var 13), .int .u64 (.var 14), .int .i64 (.var 15), .int .i64 (.var 16)]), (false, [.bool (.tt false)])])))
           (.br (.eq (.var 2) (.var 11))
            (.br (.eq (.var 4) (.conv .i64 (.var 11)))
             (.call 4 [.int .u64, .int .u64, .int .i64, .int .i64, .bool] (.cons (.var 1) (.cons (.bin .sub .u64 (.var 2) (.lit 1)) (.cons (.var 3) (.cons (.bin .sub .i64 (.var 4) (.lit 1)) .nil)))) 13
              (.leaf (.tup [(true, [.int .u64 (.var 13), .int .u64 (.var 14), .int .i64 (.var 15), .int .i64 (.var 16)]), (false, [.bool (.bvar 17)])])))
             (.call 4 [.int .u64, .int .u64, .int .i64, .int .i64, .bool] (.cons (.var 1) (.cons (.bin .sub .u64 (.var 2) (.lit 1)) (.cons (.var 3) (.cons (.var 4) .nil)))) 13
              (.leaf (.tup [(true, [.int .u64 (.var 13), .int .u64 (.var 14), .int .i64 (.var 15), .int .i64 (.var 16)]), (false, [.bool (.bvar 17)])]))))
            (.br (.eq (.var 4) (.conv .i64 (.var 11)))
             (.call 4 [.int .u64, .int .u64, .int .i64, .int .i64, .bool] (.cons (.var 1) (.cons (.var 2) (.cons (.var 3) (.cons (.bin .sub .i64 (.var 4) (.lit 1)) .nil)))) 13
              (.leaf (.tup [(true, [.int .u64 (.var 13), .int .u64 (.var 14), .int .i64 (.var 15), .int .i64 (.var 16)]), (false, [.bool (.bvar 17)])])))
             (.call 4 [.int .u64, .int .u64, .int .i64, .int .i64, .bool] (.cons (.var 1) (.cons (.var 2) (.cons (.var 3) (.cons (.var 4) .nil)))) 13
              (.leaf (.tup [(true, [.int .u64 (.var 13), .int .u64 (.var 14), .int .i64 (.var 15), .int .i64 (.var 16)]), (false, [.bool (.bvar 17)])]))))))
          (.br (.eq (.var 2) (.var 11))
           (.br (.eq (.var 3) (.conv .i64 (.var 11)))
            (.call 4 [.int .u64, .int .u64, .int .i64, .int .i64, .bool] (.cons (.var 1) (.cons (.bin .sub .u64 (.var 2) (.lit 1)) (.cons (.bin .add .i64 (.var 3) (.lit 1)) (.cons (.var 4) .nil)))) 13
             (.leaf (.tup [(true, [.int .u64 (.var 13), .int .u64 (.var 14), .int .i64 (.var 15), .int .i64 (.var 16)]), (false, [.bool (.bvar 17)])])))
            (.br (.eq (.var 4) (.conv .i64 (.var 11)))
             (.call 4 [.int .u64, .int .u64, .int .i64, .int .i64, .bool] (.cons (.var 1) (.cons (.bin .sub .u64 (.var 2) (.lit 1)) (.cons (.var 3) (.cons (.bin .sub .i64 (.var 4) (.lit 1)) .nil)))) 13
              (.leaf (.tup [(true, [.int .u64 (.var 13), .int .u64 (.var 14), .int .i64 (.var 15), .int .i64 (.var 16)]), (false, [.bool (.bvar 17)])])))
             (.call 4 [.int .u64, .int .u64, .int .i64, .int .i64, .bool] (.cons (.var 1) (.cons (.bin .sub .u64 (.var 2) (.lit 1)) (.cons (.var 3) (.cons (.var 4) .nil)))) 13
              (.leaf (.tup [(true, [.int .u64 (.var 13), .int .u64 (.var 14), .int .i64 (.var 15), .int .i64 (.var 16)]), (false, [.bool (.bvar 17)])])))))
           (.br (.eq (.var 3) (.conv .i64 (.var 11)))
            (.call 4 [.int .u64, .int .u64, .int .i64, .int .i64, .bool] (.cons (.var 1) (.cons (.var 2) (.cons (.bin .add .i64 (.var 3) (.lit 1)) (.cons (.var 4) .nil)))) 13
             (.leaf (.tup [(true, [.int .u64 (.var 13), .int .u64 (.var 14), .int .i64 (.var 15), .int .i64 (.var 16)]), (false, [.bool (.bvar 17)])])))
            (.br (.eq (.var 4) (.conv .i64 (.var 11)))
             (.call 4 [.int .u64, .int .u64, .int .i64, .int .i64, .bool] (.cons (.var 1) (.cons (.var 2) (.cons (.var 3) (.cons (.bin .sub .i64 (.var 4) (.lit 1)) .nil)))) 13
              (.leaf (.tup [(true, [.int .u64 (.var 13), .int .u64 (.var 14), .int .i64 (.var 15), .int .i64 (.var 16)]), (false, [.bool (.bvar 17)])])))
             (.call 4 [.int .u64, .int .u64, .int .i64, .int .i64, .bool] (.cons (.var 1) (.cons (.var 2) (.cons (.var 3) (.cons (.var 4) .nil)))) 13
              (.leaf (.tup [(true, [.int .u64 (.var 13), .int .u64 (.var 14), .int .i64 (.var 15), .int .i64 (.var 16)]), (false, [.bool (.bvar 17)])]))))))))
        (.br (.eq (.var 3) (.var 4))
         (.br (.eq (.var 3) (.conv .i64 (.var 11)))
          (.call 1 [.int .u64, .int .u64, .int .i64, .int .i64] .nil 13
           (.leaf (.tup [(true, [.int .u64 (.var 13), .int .u64 (.var 14), .int .i64 (.var 15), .int .i64 (.var 16)]), (false, [.bool (.tt false)])])))
          (.br (.eq (.var 1) (.var 11))
           (.br (.eq (.var 4) (.conv .i64 (.var 11)))
            (.call 4 [.int .u64, .int .u64, .int .i64, .int .i64, .bool] (.cons (.bin .add .u64 (.var 1) (.lit 1)) (.cons (.var 2) (.cons (.var 3) (.cons (.bin .sub .i64 (.var 4) (.lit 1)) .nil)))) 13
             (.leaf (.tup [(true, [.int .u64 (.var 13), .int .u64 (.var 14), .int .i64 (.var 15), .int .i64 (.var 16)]), (false, [.bool (.bvar 17)])])))
            (.call 4 [.int .u64, .int .u64, .int .i64, .int .i64, .bool] (.cons (.bin .add .u64 (.var 1) (.lit 1)) (.cons (.var 2) (.cons (.var 3) (.cons (.var 4) .nil)))) 13
             (.leaf (.tup [(true, [.int .u64 (.var 13), .int .u64 (.var 14), .int .i64 (.var 15), .int .i64 (.var 16)]), (false, [.bool (.bvar 17)])]))))
           (.br (.eq (.var 2) (.var 11))
            (.br (.eq (.var 4) (.conv .i64 (.var 11)))
             (.call 4 [.int .u64, .int .u64, .int .i64, .int .i64, .bool] (.cons (.var 1) (.cons (.bin .sub .u64 (.var 2) (.lit 1)) (.cons (.var 3) (.cons (.bin .sub .i64 (.var 4) (.lit 1)) .nil)))) 13
              (.leaf (.tup [(true, [.int .u64 (.var 13), .int .u64 (.var 14), .int .i64 (.var 15), .int .i64 (.var 16)]), (false, [.bool (.bvar 17)])])))
             (.call 4 [.int .u64, .int .u64, .int .i64, .int .i64, .bool] (.cons (.var 1) (.cons (.bin .sub .u64 (.var 2) (.lit 1)) (.cons (.var 3) (.cons (.var 4) .nil)))) 13
              (.leaf (.tup [(true, [.int .u64 (.var 13), .int .u64 (.var 14), .int .i64 (.var 15), .int .i64 (.var 16)]), (false, [.bool (.bvar 17)])]))))
            (.br (.eq (.var 4) (.conv .i64 (.var 11)))
             (.call 4 [.int .u64, .int .u64, .int .i64, .int .i64, .bool] (.cons (.var 1) (.cons (.var 2) (.cons (.var 3) (.cons (.bin .sub .i64 (.var 4) (.lit 1)) .nil)))) 13
              (.leaf (.tup [(true, [.int .u64 (.var 13), .int .u64 (.var 14), .int .i64 (.var 15), .int .i64 (.var 16)]), (false, [.bool (.bvar 17)])])))
             (.call 4 [.int .u64, .int .u64, .int .i64, .int .i64, .bool] (.cons (.var 1) (.cons (.var 2) (.cons (.var 3) (.cons (.var 4) .nil)))) 13
              (.leaf (.tup [(true, [.int .u64 (.var 13), .int .u64 (.var 14), .int .i64 (.var 15), .int .i64 (.var 16)]), (false, [.bool (.bvar 17)])])))))))
         (.br (.eq (.var 1) (.var 11))
          (.br (.eq (.var 3) (.conv .i64 (.var 11)))
           (.call 4 [.int .u64, .int .u64, .int .i64, .int .i64, .bool] (.cons (.bin .add .u64 (.var 1) (.lit 1)) (.cons (.var 2) (.cons (.bin .add .i64 (.var 3) (.lit 1)) (.cons (.var 4) .nil)))) 13
            (.leaf (.tup [(true, [.int .u64 (.var 13), .int .u64 (.var 14), .int .i64 (.var 15), .int .i64 (.var 16)]), (false, [.bool (.bvar 17)])])))
           (.br (.eq (.var 4) (.conv .i64 (.var 11)))
            (.call 4 [.int .u64, .int .u64, .int .i64, .int .i64, .bool] (.cons (.bin .add .u64 (.var 1) (.lit 1)) (.cons (.var 2) (.cons (.var 3) (.cons (.bin .sub .i64 (.var 4) (.lit 1)) .nil)))) 13
             (.leaf (.tup [(true, [.int .u64 (.var 13), .int .u64 (.var 14), .int .i64 (.var 15), .int .i64 (.var 16)]), (false, [.bool (.bvar 17)])])))
            (.call 4 [.int .u64, .int .u64, .int .i64, .int .i64, .bool] (.cons (.bin .add .u64 (.var 1) (.lit 1)) (.cons (.var 2) (.cons (.var 3) (.cons (.var 4) .nil)))) 13
             (.leaf (.tup [(true, [.int .u64 (.var 13), .int .u64 (.var 14), .int .i64 (.var 15), .int .i64 (.var 16)]), (false, [.bool (.bvar 17)])])))))
          (.br (.eq (.var 2) (.var 11))
           (.br (.eq (.var 3) (.conv .i64 (.var 11)))
            (.call 4 [.int .u64, .int .u64, .int .i64, .int .i64, .bool] (.cons (.var 1) (.cons (.bin .sub .u64 (.var 2) (.lit 1)) (.cons (.bin .add .i64 (.var 3) (.lit 1)) (.cons (.var 4) .nil)))) 13
             (.leaf (.tup [(true, [.int .u64 (.var 13), .int .u64 (.var 14), .int .i64 (.var 15), .int .i64 (.var 16)]), (false, [.bool (.bvar 17)])])))
            (.br (.eq (.var 4) (.conv .i64 (.var 11)))
             (.call 4 [.int .u64, .int .u64, .int .i64, .int .i64, .bool] (.cons (.var 1) (.cons (.bin .sub .u64 (.var 2) (.lit 1)) (.cons (.var 3) (.cons (.bin .sub .i64 (.var 4) (.lit 1)) .nil)))) 13
              (.leaf (.tup [(true, [.int .u64 (.var 13), .int .u64 (.var 14), .int .i64 (.var 15), .int .i64 (.var 16)]), (false, [.bool (.bvar 17)])])))
             (.call 4 [.int .u64, .int .u64, .int .i64, .int .i64, .bool] (.cons (.var 1) (.cons (.bin .sub .u64 (.var 2) (.lit 1)) (.cons (.var 3) (.cons (.var 4) .nil)))) 13
              (.leaf (.tup [(true, [.int .u64 (.var 13), .int .u64 (.var 14), .int .i64 (.var 15), .int .i64 (.var 16)]), (false, [.bool (.bvar 17)])])))))
           (.br (.eq (.var 3) (.conv .i64 (.var 11)))
            (.call 4 [.int .u64, .int .u64, .int .i64, .int .i64, .bool] (.cons (.var 1) (.cons (.var 2) (.cons (.bin .add .i64 (.var 3) (.lit 1)) (.cons (.var 4) .nil)))) 13
             (.leaf (.tup [(true, [.int .u64 (.var 13), .int .u64 (.var 14), .int .i64 (.var 15), .int .i64 (.var 16)]), (false, [.bool (.bvar 17)])])))
            (.br (.eq (.var 4) (.conv .i64 (.var 11)))
             (.call 4 [.int .u64, .int .u64, .int .i64, .int .i64, .bool] (.cons (.var 1) (.cons (.var 2) (.cons (.var 3) (.cons (.bin .sub .i64 (.var 4) (.lit 1)) .nil)))) 13
              (.leaf (.tup [(true, [.int .u64 (.var 13), .int .u64 (.var 14), .int .i64 (.var 15), .int .i64 (.var 16)]), (false, [.bool (.bvar 17)])])))
             (.call 4 [.int .u64, .int .u64, .int .i64, .int .i64, .bool] (.cons (.var 1) (.cons (.var 2) (.cons (.var 3) (.cons (.var 4) .nil)))) 13
              (.leaf (.tup [(true, [.int .u64 (.var 13), .int .u64 (.var 14), .int .i64 (.var 15), .int .i64 (.var 16)]), (false, [.bool (.bvar 17)])])))))))))
       (.call 4 [.int .u64, .int .u64, .int .i64, .int .i64, .bool] (.cons (.var 1) (.cons (.var 2) (.cons (.var 3) (.cons (.var 4) .nil)))) 13
        (.leaf (.tup [(true, [.int .u64 (.var 13), .int .u64 (.var 14), .int .i64 (.var 15), .int .i64 (.var 16)]), (false, [.bool (.bvar 17)])])))))
      (.br (.eq (.var 0) (.lit 2))
       (.br (.eq (.var 5) (.lit 18446744073709551615))
        (.call 1 [.int .u64, .int .u64, .int .i64, .int .i64] .nil 11
         (.leaf (.tup [(true, [.int .u64 (.var 11), .int .u64 (.var 12), .int .i64 (.var 13), .int .i64 (.var 14)]), (false, [.bool (.tt false)])])))
        (.call 4 [.int .u64, .int .u64, .int .i64, .int .i64, .bool] (.cons (.mx (.var 1) (.bin .add .u64 (.var 5) (.lit 1))) (.cons (.var 2) (.cons (.var 3) (.cons (.var 4) .nil)))) 11
         (.leaf (.tup [(true, [.int .u64 (.var 11), .int .u64 (.var 12), .int .i64 (.var 13), .int .i64 (.var 14)]), (false, [.bool (.bvar 15)])]))))
       (.br (.eq (.var 0) (.lit 3))
        (.call 4 [.int .u64, .int .u64, .int .i64, .int .i64, .bool] (.cons (.mx (.var 1) (.var 5)) (.cons (.var 2) (.cons (.var 3) (.cons (.var 4) .nil)))) 11
         (.leaf (.tup [(true, [.int .u64 (.var 11), .int .u64 (.var 12), .int .i64 (.var 13), .int .i64 (.var 14)]), (false, [.bool (.bvar 15)])])))
        (.br (.eq (.var 0) (.lit 4))
         (.br (.eq (.var 6) (.lit 0))
          (.call 1 [.int .u64, .int .u64, .int .i64, .int .i64] .nil 11
           (.leaf (.tup [(true, [.int .u64 (.var 11), .int .u64 (.var 12), .int .i64 (.var 13), .int .i64 (.var 14)]), (false, [.bool (.tt false)])])))
          (.call 4 [.int .u64, .int .u64, .int .i64, .int .i64, .bool] (.cons (.var 1) (.cons (.mn (.var 2) (.bin .sub .u64 (.var 6) (.lit 1))) (.cons (.var 3) (.cons (.var 4) .nil)))) 11
           (.leaf (.tup [(true, [.int .u64 (.var 11), .int .u64 (.var 12), .int .i64 (.var 13), .int .i64 (.var 14)]), (false, [.bool (.bvar 15)])]))))
         (.br (.eq (.var 0) (.lit 5))
          (.call 4 [.int .u64, .int .u64, .int .i64, .int .i64, .bool] (.cons (.var 1) (.cons (.mn (.var 2) (.var 6)) (.cons (.var 3) (.cons (.var 4) .nil)))) 11
           (.leaf (.tup [(true, [.int .u64 (.var 11), .int .u64 (.var 12), .int .i64 (.var 13), .int .i64 (.var 14)]), (false, [.bool (.bvar 15)])])))
          (.br (.eq (.var 0) (.lit 6))
           (.br (.eq (.var 7) (.lit 9223372036854775807))
            (.call 1 [.int .u64, .int .u64, .int .i64, .int .i64] .nil 11
             (.leaf (.tup [(true, [.int .u64 (.var 11), .int .u64 (.var 12), .int .i64 (.var 13), .int .i64 (.var 14)]), (false, [.bool (.tt false)])])))
            (.call 4 [.int .u64, .int .u64, .int .i64, .int .i64, .bool] (.cons (.var 1) (.cons (.var 2) (.cons (.mx (.var 3) (.bin .add .i64 (.var 7) (.lit 1))) (.cons (.var 4) .nil)))) 11
             (.leaf (.tup [(true, [.int .u64 (.var 11), .int .u64 (.var 12), .int .i64 (.var 13), .int .i64 (.var 14)]), (false, [.bool (.bvar 15)])]))))
           (.br (.eq (.var 0) (.lit 7))
            (.call 4 [.int .u64, .int .u64, .int .i64, .int .i64, .bool] (.cons (.var 1) (.cons (.var 2) (.cons (.mx (.var 3) (.var 7)) (.cons (.var 4) .nil)))) 11
             (.leaf (.tup [(true, [.int .u64 (.var 11), .int .u64 (.var 12), .int .i64 (.var 13), .int .i64 (.var 14)]), (false, [.bool (.bvar 15)])])))
            (.br (.eq (.var 0) (.lit 8))
             (.br (.eq (.var 8) (.lit (-9223372036854775808)))
              (.call 1 [.int .u64, .int .u64, .int .i64, .int .i64] .nil 11
               (.leaf (.tup [(true, [.int .u64 (.var 11), .int .u64 (.var 12), .int .i64 (.var 13), .int .i64 (.var 14)]), (false, [.bool (.tt false)])])))
              (.call 4 [.int .u64, .int .u64, .int .i64, .int .i64, .bool] (.cons (.var 1) (.cons (.var 2) (.cons (.var 3) (.cons (.mn (.var 4) (.bin .sub .i64 (.var 8) (.lit 1))) .nil)))) 11
               (.leaf (.tup [(true, [.int .u64 (.var 11), .int .u64 (.var 12), .int .i64 (.var 13), .int .i64 (.var 14)]), (false, [.bool (.bvar 15)])]))))
             (.br (.eq (.var 0) (.lit 9))
              (.call 4 [.int .u64, .int .u64, .int .i64, .int .i64, .bool] (.cons (.var 1) (.cons (.var 2) (.cons (.var 3) (.cons (.mn (.var 4) (.var 8)) .nil)))) 11
               (.leaf (.tup [(true, [.int .u64 (.var 11), .int .u64 (.var 12), .int .i64 (.var 13), .int .i64 (.var 14)]), (false, [.bool (.bvar 15)])])))
              (.call 4 [.int .u64, .int .u64, .int .i64, .int .i64, .bool] (.cons (.var 1) (.cons (.var 2) (.cons (.var 3) (.cons (.var 4) .nil)))) 11
               (.leaf (.tup [(true, [.int .u64 (.var 11), .int .u64 (.var 12), .int .i64 (.var 13), .int .i64 (.var 14)]), (false, [.bool (.bvar 15)])])))))))))))))))
  (.call 1 [.int .u64, .int .u64, .int .i64, .int .i64] .nil 11
   (.leaf (.tup [(true, [.int .u64 (.var 11), .int .u64 (.var 12), .int .i64 (.var 13), .int .i64 (.var 14)]), (false, [.bool (.tt false)])])))))
 (.call 1 [.int .u64, .int .u64, .int .i64, .int .i64] .nil 10
  (.leaf (.tup [(true, [.int .u64 (.var 10), .int .u64 (.var 11), .int .i64 (.var 12), .int .i64 (.var 13)]), (false, [.bool (.tt false)])])))))
def sP_rgiv : Spec := ⟨fun k => match k with | 0 => sI_rmay | 1 => sI_rall | 2 => sI_rmeet | 3 => sI_rsingle | 4 => sI_rnar | _ => fun _ _ => 0, fun k => match k with | 0 => sB_rmay | 1 => sB_rall | 2 => sB_rmeet | 3 => sB_rsingle | 4 => sB_rnar | _ => fun _ _ => false⟩
set_option maxRecDepth 100000 in
theorem sR_rgiv : funK ⟨tys_XbO, [sM_rmay 0, sM_rall 1, sM_rmeet 2, sM_rsingle 3, sM_rnar 4]⟩ 200 Try.f20 [.one (.int .i8 (.var 0)), .agg [.int .u64 (.var 1), .int .u64 (.var 2), .int .i64 (.var 3), .int .i64 (.var 4)], .agg [.int .u64 (.var 5), .int .u64 (.var 6), .int .i64 (.var 7), .int .i64 (.var 8)]] ⟨[], [], [some .i8, some .u64, some .u64, some .i64, some .i64, some .u64, some .u64, some .i64, some .i64]⟩ = sT_rgiv := by kernel_rfl
set_option maxRecDepth 100000 in
set_option maxHeartbeats 8000000 in
theorem sX_rgiv (cc : Int) (hcc : inK .i8 cc = true) (a : Rg) (ha : Rg.ok a) (b : Rg) (hb : Rg.ok b) : (∀ w, Calls Try.prog 20 #[.int .i8 cc, .agg #[.int .u64 a.ul, .int .u64 a.uh, .int .i64 a.sl, .int .i64 a.sh], .agg #[.int .u64 b.ul, .int .u64 b.uh, .int .i64 b.sl, .int .i64 b.sh]] w fun e w' => e = .returned (.tuple #[.agg #[.int .u64 (bgiv cc a b).ul, .int .u64 (bgiv cc a b).uh, .int .i64 (bgiv cc a b).sl, .int .i64 (bgiv cc a b).sh], .bool (bgok cc a b)]) ∧ Ext w w') ∧ valIn (.tuple #[.agg #[.int .u64 (bgiv cc a b).ul, .int .u64 (bgiv cc a b).uh, .int .i64 (bgiv cc a b).sl, .int .i64 (bgiv cc a b).sh], .bool (bgok cc a b)]) = true := by
  refine fun_calls (cx := ⟨tys_XbO, [sM_rmay 0, sM_rall 1, sM_rmeet 2, sM_rsingle 3, sM_rnar 4]⟩) (sp := sP_rgiv) (t := sT_rgiv) (by kernel_rfl) tysok_XbO (List.forall_mem_cons.2 ⟨sK_rmay rfl rfl, List.forall_mem_cons.2 ⟨sK_rall rfl rfl, List.forall_mem_cons.2 ⟨sK_rmeet rfl rfl, List.forall_mem_cons.2 ⟨sK_rsingle rfl rfl, List.forall_mem_cons.2 ⟨sK_rnar rfl rfl, fun _ h => (by cases h)⟩⟩⟩⟩⟩) (keys_of (by kernel_rfl)) Try.func20 ⟨fun n => ([cc, a.ul, a.uh, a.sl, a.sh, b.ul, b.uh, b.sl, b.sh] : List Int).getD n 0, fun n => ([false, false, false, false, false, false, false, false, false] : List Bool).getD n false⟩ sR_rgiv (by kernel_rfl) ?_ rfl (by intro p hp; cases hp) ?_ ?_
  · intro n k hk
    have hlt : n < 9 := by
      rcases Nat.lt_or_ge n 9 with h | h
      · exact h
      · rw [List.getElem?_eq_none h] at hk; cases hk
    rcases (show n = 0 ∨ n = 1 ∨ n = 2 ∨ n = 3 ∨ n = 4 ∨ n = 5 ∨ n = 6 ∨ n = 7 ∨ n = 8 by omega) with rfl | rfl | rfl | rfl | rfl | rfl | rfl | rfl | rfl
    · cases hk; exact hcc
    · cases hk; exact ha.1
    · cases hk; exact ha.2.1
    · cases hk; exact ha.2.2.1
    · cases hk; exact ha.2.2.2
    · cases hk; exact hb.1
    · cases hk; exact hb.2.1
    · cases hk; exact hb.2.2.1
    · cases hk; exact hb.2.2.2
  · intro ρ hag
    have g0 : ρ.i 0 = cc := (hag 0 (by decide)).1.symm
    have g1 : ρ.i 1 = a.ul := (hag 1 (by decide)).1.symm
    have g2 : ρ.i 2 = a.uh := (hag 2 (by decide)).1.symm
    have g3 : ρ.i 3 = a.sl := (hag 3 (by decide)).1.symm
    have g4 : ρ.i 4 = a.sh := (hag 4 (by decide)).1.symm
    have g5 : ρ.i 5 = b.ul := (hag 5 (by decide)).1.symm
    have g6 : ρ.i 6 = b.uh := (hag 6 (by decide)).1.symm
    have g7 : ρ.i 7 = b.sl := (hag 7 (by decide)).1.symm
    have g8 : ρ.i 8 = b.sh := (hag 8 (by decide)).1.symm
    show some ([.int .i8 (ρ.i 0), .agg #[.int .u64 (ρ.i 1), .int .u64 (ρ.i 2), .int .i64 (ρ.i 3), .int .i64 (ρ.i 4)], .agg #[.int .u64 (ρ.i 5), .int .u64 (ρ.i 6), .int .i64 (ρ.i 7), .int .i64 (ρ.i 8)]] : List Value) = _
    rw [g0, g1, g2, g3, g4, g5, g6, g7, g8]
  · intro ρ hag
    have g0 : ρ.i 0 = cc := (hag 0 (by decide)).1.symm
    have g1 : ρ.i 1 = a.ul := (hag 1 (by decide)).1.symm
    have g2 : ρ.i 2 = a.uh := (hag 2 (by decide)).1.symm
    have g3 : ρ.i 3 = a.sl := (hag 3 (by decide)).1.symm
    have g4 : ρ.i 4 = a.sh := (hag 4 (by decide)).1.symm
    have g5 : ρ.i 5 = b.ul := (hag 5 (by decide)).1.symm
    have g6 : ρ.i 6 = b.uh := (hag 6 (by decide)).1.symm
    have g7 : ρ.i 7 = b.sl := (hag 7 (by decide)).1.symm
    have g8 : ρ.i 8 = b.sh := (hag 8 (by decide)).1.symm
    simp only [sT_rgiv, Tr.asks, eqs, E.I, E.B, E.L, V.den, C.den, denL, den0, den0L, Option.map_some, Nat.add_zero, Nat.reduceAdd, and_true, Rg.eta, g0, g1, g2, g3, g4, g5, g6, g7, g8]
    simp only [sP_rgiv, b01, Pi.eta, Pu.eta, Rg.eta, sI_rmay, sB_rmay, sI_rall, sB_rall, sI_rmeet, sB_rmeet, sI_rsingle, sB_rsingle, sI_rnar, sB_rnar]
    intro e9
    (try simp only [e9, Pi.eta, Pu.eta, Rg.eta])
    (try clear e9)
    refine ⟨fun c0 => ?_, fun c0 => ?_⟩
    · skip
      intro e10
      (try simp only [e10, Pi.eta, Pu.eta, Rg.eta])
      (try clear e10)
      refine ⟨fun c1 => ?_, fun c1 => ?_⟩
      · skip
        refine ⟨fun c2 => ?_, fun c2 => ?_⟩
        · skip
          rintro ⟨e11, e12, e13, e14⟩
          (try simp only [e11, e12, e13, e14, Pi.eta, Pu.eta, Rg.eta])
          (try clear e11 e12 e13 e14)
          all_goals
            refine congrArg some ?_
            exact tup_Rg (gv_not (.inl (by unfold bgood; rw [c0, c1, decide_eq_false (show ¬ 0 ≤ cc from Int.not_le.2 (of_decide_eq_true c2))]; rfl))).1 (gv_not (.inl (by unfold bgood; rw [c0, c1, decide_eq_false (show ¬ 0 ≤ cc from Int.not_le.2 (of_decide_eq_true c2))]; rfl))).2
        · skip
          refine ⟨fun c3 => ?_, fun c3 => ?_⟩
          · skip
            rintro ⟨e11, e12, e13, e14⟩
            (try simp only [e11, e12, e13, e14, Pi.eta, Pu.eta, Rg.eta])
            (try clear e11 e12 e13 e14)
            all_goals
              refine congrArg some ?_
              exact tup_Rg (gv_not (.inl (by unfold bgood; rw [c0, c1, decide_eq_false (show ¬ cc ≤ 10 from Int.not_le.2 (of_decide_eq_true c3))]; simp))).1 (gv_not (.inl (by unfold bgood; rw [c0, c1, decide_eq_false (show ¬ cc ≤ 10 from Int.not_le.2 (of_decide_eq_true c3))]; simp))).2
          · skip
            refine ⟨fun c4 => ?_, fun c4 => ?_⟩
            · skip
              rintro ⟨e11, e12, e13, e14, e15⟩
              (try simp only [e11, e12, e13, e14, e15, Pi.eta, Pu.eta, Rg.eta])
              (try clear e11 e12 e13 e14 e15)
              all_goals
                refine congrArg some ?_
                (have hcc : 0 ≤ cc ∧ cc ≤ 10 := ⟨Int.not_lt.1 (of_decide_eq_false c2), Int.not_lt.1 (of_decide_eq_false c3)⟩; have hg := gv_good c0 c1 hcc; obtain rfl := eqz c4; exact tup_Rg (gv_eq hg).1 (gv_eq hg).2)
            · skip
              refine ⟨fun c5 => ?_, fun c5 => ?_⟩
              · skip
                rintro ⟨e11, e12⟩
                (try simp only [e11, e12, Pi.eta, Pu.eta, Rg.eta])
                (try clear e11 e12)
                refine ⟨fun c6 => ?_, fun c6 => ?_⟩
                · skip
                  refine ⟨fun c7 => ?_, fun c7 => ?_⟩
                  · skip
                    refine ⟨fun c8 => ?_, fun c8 => ?_⟩
                    · skip
                      rintro ⟨e13, e14, e15, e16⟩
                      (try simp only [e13, e14, e15, e16, Pi.eta, Pu.eta, Rg.eta])
                      (try clear e13 e14 e15 e16)
                      all_goals
                        refine congrArg some ?_
                        (have hcc : 0 ≤ cc ∧ cc ≤ 10 := ⟨Int.not_lt.1 (of_decide_eq_false c2), Int.not_lt.1 (of_decide_eq_false c3)⟩; have hg := gv_good c0 c1 hcc; obtain rfl := eqz c5; have hm := (bmay_iff a).1 c0; obtain ⟨⟨a0, a1⟩, ⟨a2, a3⟩, ⟨a4, a5⟩, a6, a7⟩ := Rg.wf_of ha; simp only [beq_iff_eq, beq_eq_false_iff_ne, ne_eq] at c7 c8; exact tup_Rg (gv_not (.inr ⟨by omega, gn_1 c6 (by omega)⟩)).1 (gv_not (.inr ⟨by omega, gn_1 c6 (by omega)⟩)).2)
                    · skip
                      refine ⟨fun c9 => ?_, fun c9 => ?_⟩
                      · skip
                        refine ⟨fun c10 => ?_, fun c10 => ?_⟩
                        · skip
                          rintro ⟨e13, e14, e15, e16⟩
                          (try simp only [e13, e14, e15, e16, Pi.eta, Pu.eta, Rg.eta])
                          (try clear e13 e14 e15 e16)
                          all_goals
                            refine congrArg some ?_
                            (have hcc : 0 ≤ cc ∧ cc ≤ 10 := ⟨Int.not_lt.1 (of_decide_eq_false c2), Int.not_lt.1 (of_decide_eq_false c3)⟩; have hg := gv_good c0 c1 hcc; obtain rfl := eqz c5; have hm := (bmay_iff a).1 c0; obtain ⟨⟨a0, a1⟩, ⟨a2, a3⟩, ⟨a4, a5⟩, a6, a7⟩ := Rg.wf_of ha; simp only [beq_iff_eq, beq_eq_false_iff_ne, ne_eq] at c7 c8 c9 c10; exact tup_Rg (gv_not (.inr ⟨by omega, gn_1 c6 (by omega)⟩)).1 (gv_not (.inr ⟨by omega, gn_1 c6 (by omega)⟩)).2)
                        · skip
                          refine ⟨fun c11 => ?_, fun c11 => ?_⟩
                          · skip
                            refine ⟨fun c12 => ?_, fun c12 => ?_⟩
                            · skip
                              rintro ⟨e13, e14, e15, e16, e17⟩
                              (try simp only [e13, e14, e15, e16, e17, Pi.eta, Pu.eta, Rg.eta])
                              (try clear e13 e14 e15 e16 e17)
                              all_goals
                                refine congrArg some ?_
                                (have hcc : 0 ≤ cc ∧ cc ≤ 10 := ⟨Int.not_lt.1 (of_decide_eq_false c2), Int.not_lt.1 (of_decide_eq_false c3)⟩; have hg := gv_good c0 c1 hcc; obtain rfl := eqz c5; have hm := (bmay_iff a).1 c0; obtain ⟨⟨a0, a1⟩, ⟨a2, a3⟩, ⟨a4, a5⟩, a6, a7⟩ := Rg.wf_of ha; simp only [beq_iff_eq, beq_eq_false_iff_ne, ne_eq] at c7 c8 c9 c10 c11 c12; exact tup_Rg (gv_can (by omega) hg (gc_1 c6 (by omega) (by omega)) (gr_1 c6 (by (try simp only [add_u, sub_u, add_i, sub_i]); split <;> omega) (by (try simp only [add_u, sub_u, add_i, sub_i]); split <;> omega) (by (try simp only [add_u, sub_u, add_i, sub_i]); split <;> omega) (by (try simp only [add_u, sub_u, add_i, sub_i]); split <;> omega))).1 (gv_can (by omega) hg (gc_1 c6 (by omega) (by omega)) (gr_1 c6 (by (try simp only [add_u, sub_u, add_i, sub_i]); split <;> omega) (by (try simp only [add_u, sub_u, add_i, sub_i]); split <;> omega) (by (try simp only [add_u, sub_u, add_i, sub_i]); split <;> omega) (by (try simp only [add_u, sub_u, add_i, sub_i]); split <;> omega))).2)
                            · skip
                              rintro ⟨e13, e14, e15, e16, e17⟩
                              (try simp only [e13, e14, e15, e16, e17, Pi.eta, Pu.eta, Rg.eta])
                              (try clear e13 e14 e15 e16 e17)
                              all_goals
                                refine congrArg some ?_
                                (have hcc : 0 ≤ cc ∧ cc ≤ 10 := ⟨Int.not_lt.1 (of_decide_eq_false c2), Int.not_lt.1 (of_decide_eq_false c3)⟩; have hg := gv_good c0 c1 hcc; obtain rfl := eqz c5; have hm := (bmay_iff a).1 c0; obtain ⟨⟨a0, a1⟩, ⟨a2, a3⟩, ⟨a4, a5⟩, a6, a7⟩ := Rg.wf_of ha; simp only [beq_iff_eq, beq_eq_false_iff_ne, ne_eq] at c7 c8 c9 c10 c11 c12; exact tup_Rg (gv_can (by omega) hg (gc_1 c6 (by omega) (by omega)) (gr_1 c6 (by (try simp only [add_u, sub_u, add_i, sub_i]); split <;> omega) (by (try simp only [add_u, sub_u, add_i, sub_i]); split <;> omega) (by (try simp only [add_u, sub_u, add_i, sub_i]); split <;> omega) (by (try simp only [add_u, sub_u, add_i, sub_i]); split <;> omega))).1 (gv_can (by omega) hg (gc_1 c6 (by omega) (by omega)) (gr_1 c6 (by (try simp only [add_u, sub_u, add_i, sub_i]); split <;> omega) (by (try simp only [add_u, sub_u, add_i, sub_i]); split <;> omega) (by (try simp only [add_u, sub_u, add_i, sub_i]); split <;> omega) (by (try simp only [add_u, sub_u, add_i, sub_i]); split <;> omega))).2)
                          · skip
                            refine ⟨fun c13 => ?_, fun c13 => ?_⟩
                            · skip
                              rintro ⟨e13, e14, e15, e16, e17⟩
                              (try simp only [e13, e14, e15, e16, e17, Pi.eta, Pu.eta, Rg.eta])
                              (try clear e13 e14 e15 e16 e17)
                              all_goals
                                refine congrArg some ?_
                                (have hcc : 0 ≤ cc ∧ cc ≤ 10 := ⟨Int.not_lt.1 (of_decide_eq_false c2), Int.not_lt.1 (of_decide_eq_false c3)⟩; have hg := gv_good c0 c1 hcc; obtain rfl := eqz c5; have hm := (bmay_iff a).1 c0; obtain ⟨⟨a0, a1⟩, ⟨a2, a3⟩, ⟨a4, a5⟩, a6, a7⟩ := Rg.wf_of ha; simp only [beq_iff_eq, beq_eq_false_iff_ne, ne_eq] at c7 c8 c9 c10 c11 c13; exact tup_Rg (gv_can (by omega) hg (gc_1 c6 (by omega) (by omega)) (gr_1 c6 (by (try simp only [add_u, sub_u, add_i, sub_i]); split <;> omega) (by (try simp only [add_u, sub_u, add_i, sub_i]); split <;> omega) (by (try simp only [add_u, sub_u, add_i, sub_i]); split <;> omega) (by (try simp only [add_u, sub_u, add_i, sub_i]); split <;> omega))).1 (gv_can (by omega) hg (gc_1 c6 (by omega) (by omega)) (gr_1 c6 (by (try simp only [add_u, sub_u, add_i, sub_i]); split <;> omega) (by (try simp only [add_u, sub_u, add_i, sub_i]); split <;> omega) (by (try simp only [add_u, sub_u, add_i, sub_i]); split <;> omega) (by (try simp only [add_u, sub_u, add_i, sub_i]); split <;> omega))).2)
                            · skip
                              rintro ⟨e13, e14, e15, e16, e17⟩
                              (try simp only [e13, e14, e15, e16, e17, Pi.eta, Pu.eta, Rg.eta])
                              (try clear e13 e14 e15 e16 e17)
                              all_goals
                                refine congrArg some ?_
                                (have hcc : 0 ≤ cc ∧ cc ≤ 10 := ⟨Int.not_lt.1 (of_decide_eq_false c2), Int.not_lt.1 (of_decide_eq_false c3)⟩; have hg := gv_good c0 c1 hcc; obtain rfl := eqz c5; have hm := (bmay_iff a).1 c0; obtain ⟨⟨a0, a1⟩, ⟨a2, a3⟩, ⟨a4, a5⟩, a6, a7⟩ := Rg.wf_of ha; simp only [beq_iff_eq, beq_eq_false_iff_ne, ne_eq] at c7 c8 c9 c10 c11 c13; exact tup_Rg (gv_can (by omega) hg (gc_1 c6 (by omega) (by omega)) (gr_1 c6 (by (try simp only [add_u, sub_u, add_i, sub_i]); split <;> omega) (by (try simp only [add_u, sub_u, add_i, sub_i]); split <;> omega) (by (try simp only [add_u, sub_u, add_i, sub_i]); split <;> omega) (by (try simp only [add_u, sub_u, add_i, sub_i]); split <;> omega))).1 (gv_can (by omega) hg (gc_1 c6 (by omega) (by omega)) (gr_1 c6 (by (try simp only [add_u, sub_u, add_i, sub_i]); split <;> omega) (by (try simp only [add_u, sub_u, add_i, sub_i]); split <;> omega) (by (try simp only [add_u, sub_u, add_i, sub_i]); split <;> omega) (by (try simp only [add_u, sub_u, add_i, sub_i]); split <;> omega))).2)
                      · skip
                        refine ⟨fun c14 => ?_, fun c14 => ?_⟩
                        · skip
                          refine ⟨fun c15 => ?_, fun c15 => ?_⟩
                          · skip
                            rintro ⟨e13, e14, e15, e16, e17⟩
                            (try simp only [e13, e14, e15, e16, e17, Pi.eta, Pu.eta, Rg.eta])
                            (try clear e13 e14 e15 e16 e17)
                            all_goals
                              refine congrArg some ?_
                              (have hcc : 0 ≤ cc ∧ cc ≤ 10 := ⟨Int.not_lt.1 (of_decide_eq_false c2), Int.not_lt.1 (of_decide_eq_false c3)⟩; have hg := gv_good c0 c1 hcc; obtain rfl := eqz c5; have hm := (bmay_iff a).1 c0; obtain ⟨⟨a0, a1⟩, ⟨a2, a3⟩, ⟨a4, a5⟩, a6, a7⟩ := Rg.wf_of ha; simp only [beq_iff_eq, beq_eq_false_iff_ne, ne_eq] at c7 c8 c9 c14 c15; exact tup_Rg (gv_can (by omega) hg (gc_1 c6 (by omega) (by omega)) (gr_1 c6 (by (try simp only [add_u, sub_u, add_i, sub_i]); split <;> omega) (by (try simp only [add_u, sub_u, add_i, sub_i]); split <;> omega) (by (try simp only [add_u, sub_u, add_i, sub_i]); split <;> omega) (by (try simp only [add_u, sub_u, add_i, sub_i]); split <;> omega))).1 (gv_can (by omega) hg (gc_1 c6 (by omega) (by omega)) (gr_1 c6 (by (try simp only [add_u, sub_u, add_i, sub_i]); split <;> omega) (by (try simp only [add_u, sub_u, add_i, sub_i]); split <;> omega) (by (try simp only [add_u, sub_u, add_i, sub_i]); split <;> omega) (by (try simp only [add_u, sub_u, add_i, sub_i]); split <;> omega))).2)
                          · skip
                            refine ⟨fun c16 => ?_, fun c16 => ?_⟩
                            · skip
                              rintro ⟨e13, e14, e15, e16, e17⟩
                              (try simp only [e13, e14, e15, e16, e17, Pi.eta, Pu.eta, Rg.eta])
                              (try clear e13 e14 e15 e16 e17)
                              all_goals
                                refine congrArg some ?_
                                (have hcc : 0 ≤ cc ∧ cc ≤ 10 := ⟨Int.not_lt.1 (of_decide_eq_false c2), Int.not_lt.1 (of_decide_eq_false c3)⟩; have hg := gv_good c0 c1 hcc; obtain rfl := eqz c5; have hm := (bmay_iff a).1 c0; obtain ⟨⟨a0, a1⟩, ⟨a2, a3⟩, ⟨a4, a5⟩, a6, a7⟩ := Rg.wf_of ha; simp only [beq_iff_eq, beq_eq_false_iff_ne, ne_eq] at c7 c8 c9 c14 c15 c16; exact tup_Rg (gv_can (by omega) hg (gc_1 c6 (by omega) (by omega)) (gr_1 c6 (by (try simp only [add_u, sub_u, add_i, sub_i]); split <;> omega) (by (try simp only [add_u, sub_u, add_i, sub_i]); split <;> omega) (by (try simp only [add_u, sub_u, add_i, sub_i]); split <;> omega) (by (try simp only [add_u, sub_u, add_i, sub_i]); split <;> omega))).1 (gv_can (by omega) hg (gc_1 c6 (by omega) (by omega)) (gr_1 c6 (by (try simp only [add_u, sub_u, add_i, sub_i]); split <;> omega) (by (try simp only [add_u, sub_u, add_i, sub_i]); split <;> omega) (by (try simp only [add_u, sub_u, add_i, sub_i]); split <;> omega) (by (try simp only [add_u, sub_u, add_i, sub_i]); split <;> omega))).2)
                            · skip
                              rintro ⟨e13, e14, e15, e16, e17⟩
                              (try simp only [e13, e14, e15, e16, e17, Pi.eta, Pu.eta, Rg.eta])
                              (try clear e13 e14 e15 e16 e17)
                              all_goals
                                refine congrArg some ?_
                                (have hcc : 0 ≤ cc ∧ cc ≤ 10 := ⟨Int.not_lt.1 (of_decide_eq_false c2), Int.not_lt.1 (of_decide_eq_false c3)⟩; have hg := gv_good c0 c1 hcc; obtain rfl := eqz c5; have hm := (bmay_iff a).1 c0; obtain ⟨⟨a0, a1⟩, ⟨a2, a3⟩, ⟨a4, a5⟩, a6, a7⟩ := Rg.wf_of ha; simp only [beq_iff_eq, beq_eq_false_iff_ne, ne_eq] at c7 c8 c9 c14 c15 c16; exact tup_Rg (gv_can (by omega) hg (gc_1 c6 (by omega) (by omega)) (gr_1 c6 (by (try simp only [add_u, sub_u, add_i, sub_i]); split <;> omega) (by (try simp only [add_u, sub_u, add_i, sub_i]); split <;> omega) (by (try simp only [add_u, sub_u, add_i, sub_i]); split <;> omega) (by (try simp only [add_u, sub_u, add_i, sub_i]); split <;> omega))).1 (gv_can (by omega) hg (gc_1 c6 (by omega) (by omega)) (gr_1 c6 (by (try simp only [add_u, sub_u, add_i, sub_i]); split <;> omega) (by (try simp only [add_u, sub_u, add_i, sub_i]); split <;> omega) (by (try simp only [add_u, sub_u, add_i, sub_i]); split <;> omega) (by (try simp only [add_u, sub_u, add_i, sub_i]); split <;> omega))).2)
                        · skip
                          refine ⟨fun c17 => ?_, fun c17 => ?_⟩
                          · skip
                            rintro ⟨e13, e14, e15, e16, e17⟩
                            (try simp only [e13, e14, e15, e16, e17, Pi.eta, Pu.eta, Rg.eta])
                            (try clear e13 e14 e15 e16 e17)
                            all_goals
                              refine congrArg some ?_
                              (have hcc : 0 ≤ cc ∧ cc ≤ 10 := ⟨Int.not_lt.1 (of_decide_eq_false c2), Int.not_lt.1 (of_decide_eq_false c3)⟩; have hg := gv_good c0 c1 hcc; obtain rfl := eqz c5; have hm := (bmay_iff a).1 c0; obtain ⟨⟨a0, a1⟩, ⟨a2, a3⟩, ⟨a4, a5⟩, a6, a7⟩ := Rg.wf_of ha; simp only [beq_iff_eq, beq_eq_false_iff_ne, ne_eq] at c7 c8 c9 c14 c17; exact tup_Rg (gv_can (by omega) hg (gc_1 c6 (by omega) (by omega)) (gr_1 c6 (by (try simp only [add_u, sub_u, add_i, sub_i]); split <;> omega) (by (try simp only [add_u, sub_u, add_i, sub_i]); split <;> omega) (by (try simp only [add_u, sub_u, add_i, sub_i]); split <;> omega) (by (try simp only [add_u, sub_u, add_i, sub_i]); split <;> omega))).1 (gv_can (by omega) hg (gc_1 c6 (by omega) (by omega)) (gr_1 c6 (by (try simp only [add_u, sub_u, add_i, sub_i]); split <;> omega) (by (try simp only [add_u, sub_u, add_i, sub_i]); split <;> omega) (by (try simp only [add_u, sub_u, add_i, sub_i]); split <;> omega) (by (try simp only [add_u, sub_u, add_i, sub_i]); split <;> omega))).2)
                          · skip
                            refine ⟨fun c18 => ?_, fun c18 => ?_⟩
                            · skip
                              rintro ⟨e13, e14, e15, e16, e17⟩
                              (try simp only [e13, e14, e15, e16, e17, Pi.eta, Pu.eta, Rg.eta])
                              (try clear e13 e14 e15 e16 e17)
                              all_goals
                                refine congrArg some ?_
                                (have hcc : 0 ≤ cc ∧ cc ≤ 10 := ⟨Int.not_lt.1 (of_decide_eq_false c2), Int.not_lt.1 (of_decide_eq_false c3)⟩; have hg := gv_good c0 c1 hcc; obtain rfl := eqz c5; have hm := (bmay_iff a).1 c0; obtain ⟨⟨a0, a1⟩, ⟨a2, a3⟩, ⟨a4, a5⟩, a6, a7⟩ := Rg.wf_of ha; simp only [beq_iff_eq, beq_eq_false_iff_ne, ne_eq] at c7 c8 c9 c14 c17 c18; exact tup_Rg (gv_can (by omega) hg (gc_1 c6 (by omega) (by omega)) (gr_1 c6 (by (try simp only [add_u, sub_u, add_i, sub_i]); split <;> omega) (by (try simp only [add_u, sub_u, add_i, sub_i]); split <;> omega) (by (try simp only [add_u, sub_u, add_i, sub_i]); split <;> omega) (by (try simp only [add_u, sub_u, add_i, sub_i]); split <;> omega))).1 (gv_can (by omega) hg (gc_1 c6 (by omega) (by omega)) (gr_1 c6 (by (try simp only [add_u, sub_u, add_i, sub_i]); split <;> omega) (by (try simp only [add_u, sub_u, add_i, sub_i]); split <;> omega) (by (try simp only [add_u, sub_u, add_i, sub_i]); split <;> omega) (by (try simp only [add_u, sub_u, add_i, sub_i]); split <;> omega))).2)
                            · skip
                              rintro ⟨e13, e14, e15, e16, e17⟩
                              (try simp only [e13, e14, e15, e16, e17, Pi.eta, Pu.eta, Rg.eta])
                              (try clear e13 e14 e15 e16 e17)
                              all_goals
                                refine congrArg some ?_
                                (have hcc : 0 ≤ cc ∧ cc ≤ 10 := ⟨Int.not_lt.1 (of_decide_eq_false c2), Int.not_lt.1 (of_decide_eq_false c3)⟩; have hg := gv_good c0 c1 hcc; obtain rfl := eqz c5; have hm := (bmay_iff a).1 c0; obtain ⟨⟨a0, a1⟩, ⟨a2, a3⟩, ⟨a4, a5⟩, a6, a7⟩ := Rg.wf_of ha; simp only [beq_iff_eq, beq_eq_false_iff_ne, ne_eq] at c7 c8 c9 c14 c17 c18; exact tup_Rg (gv_can (by omega) hg (gc_1 c6 (by omega) (by omega)) (gr_1 c6 (by (try simp only [add_u, sub_u, add_i, sub_i]); split <;> omega) (by (try simp only [add_u, sub_u, add_i, sub_i]); split <;> omega) (by (try simp only [add_u, sub_u, add_i, sub_i]); split <;> omega) (by (try simp only [add_u, sub_u, add_i, sub_i]); split <;> omega))).1 (gv_can (by omega) hg (gc_1 c6 (by omega) (by omega)) (gr_1 c6 (by (try simp only [add_u, sub_u, add_i, sub_i]); split <;> omega) (by (try simp only [add_u, sub_u, add_i, sub_i]); split <;> omega) (by (try simp only [add_u, sub_u, add_i, sub_i]); split <;> omega) (by (try simp only [add_u, sub_u, add_i, sub_i]); split <;> omega))).2)
                  · skip
                    refine ⟨fun c19 => ?_, fun c19 => ?_⟩
                    · skip
                      refine ⟨fun c20 => ?_, fun c20 => ?_⟩
                      · skip
                        rintro ⟨e13, e14, e15, e16⟩
                        (try simp only [e13, e14, e15, e16, Pi.eta, Pu.eta, Rg.eta])
                        (try clear e13 e14 e15 e16)
                        all_goals
                          refine congrArg some ?_
                          (have hcc : 0 ≤ cc ∧ cc ≤ 10 := ⟨Int.not_lt.1 (of_decide_eq_false c2), Int.not_lt.1 (of_decide_eq_false c3)⟩; have hg := gv_good c0 c1 hcc; obtain rfl := eqz c5; have hm := (bmay_iff a).1 c0; obtain ⟨⟨a0, a1⟩, ⟨a2, a3⟩, ⟨a4, a5⟩, a6, a7⟩ := Rg.wf_of ha; simp only [beq_iff_eq, beq_eq_false_iff_ne, ne_eq] at c7 c19 c20; exact tup_Rg (gv_not (.inr ⟨by omega, gn_1 c6 (by omega)⟩)).1 (gv_not (.inr ⟨by omega, gn_1 c6 (by omega)⟩)).2)
                      · skip
                        refine ⟨fun c21 => ?_, fun c21 => ?_⟩
                        · skip
                          refine ⟨fun c22 => ?_, fun c22 => ?_⟩
                          · skip
                            rintro ⟨e13, e14, e15, e16, e17⟩
                            (try simp only [e13, e14, e15, e16, e17, Pi.eta, Pu.eta, Rg.eta])
                            (try clear e13 e14 e15 e16 e17)
                            all_goals
                              refine congrArg some ?_
                              (have hcc : 0 ≤ cc ∧ cc ≤ 10 := ⟨Int.not_lt.1 (of_decide_eq_false c2), Int.not_lt.1 (of_decide_eq_false c3)⟩; have hg := gv_good c0 c1 hcc; obtain rfl := eqz c5; have hm := (bmay_iff a).1 c0; obtain ⟨⟨a0, a1⟩, ⟨a2, a3⟩, ⟨a4, a5⟩, a6, a7⟩ := Rg.wf_of ha; simp only [beq_iff_eq, beq_eq_false_iff_ne, ne_eq] at c7 c19 c20 c21 c22; exact tup_Rg (gv_can (by omega) hg (gc_1 c6 (by omega) (by omega)) (gr_1 c6 (by (try simp only [add_u, sub_u, add_i, sub_i]); split <;> omega) (by (try simp only [add_u, sub_u, add_i, sub_i]); split <;> omega) (by (try simp only [add_u, sub_u, add_i, sub_i]); split <;> omega) (by (try simp only [add_u, sub_u, add_i, sub_i]); split <;> omega))).1 (gv_can (by omega) hg (gc_1 c6 (by omega) (by omega)) (gr_1 c6 (by (try simp only [add_u, sub_u, add_i, sub_i]); split <;> omega) (by (try simp only [add_u, sub_u, add_i, sub_i]); split <;> omega) (by (try simp only [add_u, sub_u, add_i, sub_i]); split <;> omega) (by (try simp only [add_u, sub_u, add_i, sub_i]); split <;> omega))).2)
                          · skip
                            rintro ⟨e13, e14, e15, e16, e17⟩
                            (try simp only [e13, e14, e15, e16, e17, Pi.eta, Pu.eta, Rg.eta])
                            (try clear e13 e14 e15 e16 e17)
                            all_goals
                              refine congrArg some ?_
                              (have hcc : 0 ≤ cc ∧ cc ≤ 10 := ⟨Int.not_lt.1 (of_decide_eq_false c2), Int.not_lt.1 (of_decide_eq_false c3)⟩; have hg := gv_good c0 c1 hcc; obtain rfl := eqz c5; have hm := (bmay_iff a).1 c0; obtain ⟨⟨a0, a1⟩, ⟨a2, a3⟩, ⟨a4, a5⟩, a6, a7⟩ := Rg.wf_of ha; simp only [beq_iff_eq, beq_eq_false_iff_ne, ne_eq] at c7 c19 c20 c21 c22; exact tup_Rg (gv_can (by omega) hg (gc_1 c6 (by omega) (by omega)) (gr_1 c6 (by (try simp only [add_u, sub_u, add_i, sub_i]); split <;> omega) (by (try simp only [add_u, sub_u, add_i, sub_i]); split <;> omega) (by (try simp only [add_u, sub_u, add_i, sub_i]); split <;> omega) (by (try simp only [add_u, sub_u, add_i, sub_i]); split <;> omega))).1 (gv_can (by omega) hg (gc_1 c6 (by omega) (by omega)) (gr_1 c6 (by (try simp only [add_u, sub_u, add_i, sub_i]); split <;> omega) (by (try simp only [add_u, sub_u, add_i, sub_i]); split <;> omega) (by (try simp only [add_u, sub_u, add_i, sub_i]); split <;> omega) (by (try simp only [add_u, sub_u, add_i, sub_i]); split <;> omega))).2)
                        · skip
                          refine ⟨fun c23 => ?_, fun c23 => ?_⟩
                          · skip
                            refine ⟨fun c24 => ?_, fun c24 => ?_⟩
                            · skip
                              rintro ⟨e13, e14, e15, e16, e17⟩
                              (try simp only [e13, e14, e15, e16, e17, Pi.eta, Pu.eta, Rg.eta])
                              (try clear e13 e14 e15 e16 e17)
                              all_goals
                                refine congrArg some ?_
                                (have hcc : 0 ≤ cc ∧ cc ≤ 10 := ⟨Int.not_lt.1 (of_decide_eq_false c2), Int.not_lt.1 (of_decide_eq_false c3)⟩; have hg := gv_good c0 c1 hcc; obtain rfl := eqz c5; have hm := (bmay_iff a).1 c0; obtain ⟨⟨a0, a1⟩, ⟨a2, a3⟩, ⟨a4, a5⟩, a6, a7⟩ := Rg.wf_of ha; simp only [beq_iff_eq, beq_eq_false_iff_ne, ne_eq] at c7 c19 c20 c21 c23 c24; exact tup_Rg (gv_can (by omega) hg (gc_1 c6 (by omega) (by omega)) (gr_1 c6 (by (try simp only [add_u, sub_u, add_i, sub_i]); split <;> omega) (by (try simp only [add_u, sub_u, add_i, sub_i]); split <;> omega) (by (try simp only [add_u, sub_u, add_i, sub_i]); split <;> omega) (by (try simp only [add_u, sub_u, add_i, sub_i]); split <;> omega))).1 (gv_can (by omega) hg (gc_1 c6 (by omega) (by omega)) (gr_1 c6 (by (try simp only [add_u, sub_u, add_i, sub_i]); split <;> omega) (by (try simp only [add_u, sub_u, add_i, sub_i]); split <;> omega) (by (try simp only [add_u, sub_u, add_i, sub_i]); split <;> omega) (by (try simp only [add_u, sub_u, add_i, sub_i]); split <;> omega))).2)
                            · skip
                              rintro ⟨e13, e14, e15, e16, e17⟩
                              (try simp only [e13, e14, e15, e16, e17, Pi.eta, Pu.eta, Rg.eta])
                              (try clear e13 e14 e15 e16 e17)
                              all_goals
                                refine congrArg some ?_
                                (have hcc : 0 ≤ cc ∧ cc ≤ 10 := ⟨Int.not_lt.1 (of_decide_eq_false c2), Int.not_lt.1 (of_decide_eq_false c3)⟩; have hg := gv_good c0 c1 hcc; obtain rfl := eqz c5; have hm := (bmay_iff a).1 c0; obtain ⟨⟨a0, a1⟩, ⟨a2, a3⟩, ⟨a4, a5⟩, a6, a7⟩ := Rg.wf_of ha; simp only [beq_iff_eq, beq_eq_false_iff_ne, ne_eq] at c7 c19 c20 c21 c23 c24; exact tup_Rg (gv_can (by omega) hg (gc_1 c6 (by omega) (by omega)) (gr_1 c6 (by (try simp only [add_u, sub_u, add_i, sub_i]); split <;> omega) (by (try simp only [add_u, sub_u, add_i, sub_i]); split <;> omega) (by (try simp only [add_u, sub_u, add_i, sub_i]); split <;> omega) (by (try simp only [add_u, sub_u, add_i, sub_i]); split <;> omega))).1 (gv_can (by omega) hg (gc_1 c6 (by omega) (by omega)) (gr_1 c6 (by (try simp only [add_u, sub_u, add_i, sub_i]); split <;> omega) (by (try simp only [add_u, sub_u, add_i, sub_i]); split <;> omega) (by (try simp only [add_u, sub_u, add_i, sub_i]); split <;> omega) (by (try simp only [add_u, sub_u, add_i, sub_i]); split <;> omega))).2)
                          · skip
                            refine ⟨fun c25 => ?_, fun c25 => ?_⟩
                            · skip
                              rintro ⟨e13, e14, e15, e16, e17⟩
                              (try simp only [e13, e14, e15, e16, e17, Pi.eta, Pu.eta, Rg.eta])
                              (try clear e13 e14 e15 e16 e17)
                              all_goals
                                refine congrArg some ?_
                                (have hcc : 0 ≤ cc ∧ cc ≤ 10 := ⟨Int.not_lt.1 (of_decide_eq_false c2), Int.not_lt.1 (of_decide_eq_false c3)⟩; have hg := gv_good c0 c1 hcc; obtain rfl := eqz c5; have hm := (bmay_iff a).1 c0; obtain ⟨⟨a0, a1⟩, ⟨a2, a3⟩, ⟨a4, a5⟩, a6, a7⟩ := Rg.wf_of ha; simp only [beq_iff_eq, beq_eq_false_iff_ne, ne_eq] at c7 c19 c20 c21 c23 c25; exact tup_Rg (gv_can (by omega) hg (gc_1 c6 (by omega) (by omega)) (gr_1 c6 (by (try simp only [add_u, sub_u, add_i, sub_i]); split <;> omega) (by (try simp only [add_u, sub_u, add_i, sub_i]); split <;> omega) (by (try simp only [add_u, sub_u, add_i, sub_i]); split <;> omega) (by (try simp only [add_u, sub_u, add_i, sub_i]); split <;> omega))).1 (gv_can (by omega) hg (gc_1 c6 (by omega) (by omega)) (gr_1 c6 (by (try simp only [add_u, sub_u, add_i, sub_i]); split <;> omega) (by (try simp only [add_u, sub_u, add_i, sub_i]); split <;> omega) (by (try simp only [add_u, sub_u, add_i, sub_i]); split <;> omega) (by (try simp only [add_u, sub_u, add_i, sub_i]); split <;> omega))).2)
                            · skip
                              rintro ⟨e13, e14, e15, e16, e17⟩
                              (try simp only [e13, e14, e15, e16, e17, Pi.eta, Pu.eta, Rg.eta])
                              (try clear e13 e14 e15 e16 e17)
                              all_goals
                                refine congrArg some ?_
                                (have hcc : 0 ≤ cc ∧ cc ≤ 10 := ⟨Int.not_lt.1 (of_decide_eq_false c2), Int.not_lt.1 (of_decide_eq_false c3)⟩; have hg := gv_good c0 c1 hcc; obtain rfl := eqz c5; have hm := (bmay_iff a).1 c0; obtain ⟨⟨a0, a1⟩, ⟨a2, a3⟩, ⟨a4, a5⟩, a6, a7⟩ := Rg.wf_of ha; simp only [beq_iff_eq, beq_eq_false_iff_ne, ne_eq] at c7 c19 c20 c21 c23 c25; exact tup_Rg (gv_can (by omega) hg (gc_1 c6 (by omega) (by omega)) (gr_1 c6 (by (try simp only [add_u, sub_u, add_i, sub_i]); split <;> omega) (by (try simp only [add_u, sub_u, add_i, sub_i]); split <;> omega) (by (try simp only [add_u, sub_u, add_i, sub_i]); split <;> omega) (by (try simp only [add_u, sub_u, add_i, sub_i]); split <;> omega))).1 (gv_can (by omega) hg (gc_1 c6 (by omega) (by omega)) (gr_1 c6 (by (try simp only [add_u, sub_u, add_i, sub_i]); split <;> omega) (by (try simp only [add_u, sub_u, add_i, sub_i]); split <;> omega) (by (try simp only [add_u, sub_u, add_i, sub_i]); split <;> omega) (by (try simp only [add_u, sub_u, add_i, sub_i]); split <;> omega))).2)
                    · skip
                      refine ⟨fun c26 => ?_, fun c26 => ?_⟩
                      · skip
                        refine ⟨fun c27 => ?_, fun c27 => ?_⟩
                        · skip
                          rintro ⟨e13, e14, e15, e16, e17⟩
                          (try simp only [e13, e14, e15, e16, e17, Pi.eta, Pu.eta, Rg.eta])
                          (try clear e13 e14 e15 e16 e17)
                          all_goals
                            refine congrArg some ?_
                            (have hcc : 0 ≤ cc ∧ cc ≤ 10 := ⟨Int.not_lt.1 (of_decide_eq_false c2), Int.not_lt.1 (of_decide_eq_false c3)⟩; have hg := gv_good c0 c1 hcc; obtain rfl := eqz c5; have hm := (bmay_iff a).1 c0; obtain ⟨⟨a0, a1⟩, ⟨a2, a3⟩, ⟨a4, a5⟩, a6, a7⟩ := Rg.wf_of ha; simp only [beq_iff_eq, beq_eq_false_iff_ne, ne_eq] at c7 c19 c26 c27; exact tup_Rg (gv_can (by omega) hg (gc_1 c6 (by omega) (by omega)) (gr_1 c6 (by (try simp only [add_u, sub_u, add_i, sub_i]); split <;> omega) (by (try simp only [add_u, sub_u, add_i, sub_i]); split <;> omega) (by (try simp only [add_u, sub_u, add_i, sub_i]); split <;> omega) (by (try simp only [add_u, sub_u, add_i, sub_i]); split <;> omega))).1 (gv_can (by omega) hg (gc_1 c6 (by omega) (by omega)) (gr_1 c6 (by (try simp only [add_u, sub_u, add_i, sub_i]); split <;> omega) (by (try simp only [add_u, sub_u, add_i, sub_i]); split <;> omega) (by (try simp only [add_u, sub_u, add_i, sub_i]); split <;> omega) (by (try simp only [add_u, sub_u, add_i, sub_i]); split <;> omega))).2)
                        · skip
                          refine ⟨fun c28 => ?_, fun c28 => ?_⟩
                          · skip
                            rintro ⟨e13, e14, e15, e16, e17⟩
                            (try simp only [e13, e14, e15, e16, e17, Pi.eta, Pu.eta, Rg.eta])
                            (try clear e13 e14 e15 e16 e17)
                            all_goals
                              refine congrArg some ?_
                              (have hcc : 0 ≤ cc ∧ cc ≤ 10 := ⟨Int.not_lt.1 (of_decide_eq_false c2), Int.not_lt.1 (of_decide_eq_false c3)⟩; have hg := gv_good c0 c1 hcc; obtain rfl := eqz c5; have hm := (bmay_iff a).1 c0; obtain ⟨⟨a0, a1⟩, ⟨a2, a3⟩, ⟨a4, a5⟩, a6, a7⟩ := Rg.wf_of ha; simp only [beq_iff_eq, beq_eq_false_iff_ne, ne_eq] at c7 c19 c26 c27 c28; exact tup_Rg (gv_can (by omega) hg (gc_1 c6 (by omega) (by omega)) (gr_1 c6 (by (try simp only [add_u, sub_u, add_i, sub_i]); split <;> omega) (by (try simp only [add_u, sub_u, add_i, sub_i]); split <;> omega) (by (try simp only [add_u, sub_u, add_i, sub_i]); split <;> omega) (by (try simp only [add_u, sub_u, add_i, sub_i]); split <;> omega))).1 (gv_can (by omega) hg (gc_1 c6 (by omega) (by omega)) (gr_1 c6 (by (try simp only [add_u, sub_u, add_i, sub_i]); split <;> omega) (by (try simp only [add_u, sub_u, add_i, sub_i]); split <;> omega) (by (try simp only [add_u, sub_u, add_i, sub_i]); split <;> omega) (by (try simp only [add_u, sub_u, add_i, sub_i]); split <;> omega))).2)
                          · skip
                            rintro ⟨e13, e14, e15, e16, e17⟩
                            (try simp only [e13, e14, e15, e16, e17, Pi.eta, Pu.eta, Rg.eta])
                            (try clear e13 e14 e15 e16 e17)
                            all_goals
                              refine congrArg some ?_
                              (have hcc : 0 ≤ cc ∧ cc ≤ 10 := ⟨Int.not_lt.1 (of_decide_eq_false c2), Int.not_lt.1 (of_decide_eq_false c3)⟩; have hg := gv_good c0 c1 hcc; obtain rfl := eqz c5; have hm := (bmay_iff a).1 c0; obtain ⟨⟨a0, a1⟩, ⟨a2, a3⟩, ⟨a4, a5⟩, a6, a7⟩ := Rg.wf_of ha; simp only [beq_iff_eq, beq_eq_false_iff_ne, ne_eq] at c7 c19 c26 c27 c28; exact tup_Rg (gv_can (by omega) hg (gc_1 c6 (by omega) (by omega)) (gr_1 c6 (by (try simp only [add_u, sub_u, add_i, sub_i]); split <;> omega) (by (try simp only [add_u, sub_u, add_i, sub_i]); split <;> omega) (by (try simp only [add_u, sub_u, add_i, sub_i]); split <;> omega) (by (try simp only [add_u, sub_u, add_i, sub_i]); split <;> omega))).1 (gv_can (by omega) hg (gc_1 c6 (by omega) (by omega)) (gr_1 c6 (by (try simp only [add_u, sub_u, add_i, sub_i]); split <;> omega) (by (try simp only [add_u, sub_u, add_i, sub_i]); split <;> omega) (by (try simp only [add_u, sub_u, add_i, sub_i]); split <;> omega) (by (try simp only [add_u, sub_u, add_i, sub_i]); split <;> omega))).2)
                      · skip
                        refine ⟨fun c29 => ?_, fun c29 => ?_⟩
                        · skip
                          refine ⟨fun c30 => ?_, fun c30 => ?_⟩
                          · skip
                            rintro ⟨e13, e14, e15, e16, e17⟩
                            (try simp only [e13, e14, e15, e16, e17, Pi.eta, Pu.eta, Rg.eta])
                            (try clear e13 e14 e15 e16 e17)
                            all_goals
                              refine congrArg some ?_
                              (have hcc : 0 ≤ cc ∧ cc ≤ 10 := ⟨Int.not_lt.1 (of_decide_eq_false c2), Int.not_lt.1 (of_decide_eq_false c3)⟩; have hg := gv_good c0 c1 hcc; obtain rfl := eqz c5; have hm := (bmay_iff a).1 c0; obtain ⟨⟨a0, a1⟩, ⟨a2, a3⟩, ⟨a4, a5⟩, a6, a7⟩ := Rg.wf_of ha; simp only [beq_iff_eq, beq_eq_false_iff_ne, ne_eq] at c7 c19 c26 c29 c30; exact tup_Rg (gv_can (by omega) hg (gc_1 c6 (by omega) (by omega)) (gr_1 c6 (by (try simp only [add_u, sub_u, add_i, sub_i]); split <;> omega) (by (try simp only [add_u, sub_u, add_i, sub_i]); split <;> omega) (by (try simp only [add_u, sub_u, add_i, sub_i]); split <;> omega) (by (try simp only [add_u, sub_u, add_i, sub_i]); split <;> omega))).1 (gv_can (by omega) hg (gc_1 c6 (by omega) (by omega)) (gr_1 c6 (by (try simp only [add_u, sub_u, add_i, sub_i]); split <;> omega) (by (try simp only [add_u, sub_u, add_i, sub_i]); split <;> omega) (by (try simp only [add_u, sub_u, add_i, sub_i]); split <;> omega) (by (try simp only [add_u, sub_u, add_i, sub_i]); split <;> omega))).2)
                          · skip
                            refine ⟨fun c31 => ?_, fun c31 => ?_⟩
                            · skip
                              rintro ⟨e13, e14, e15, e16, e17⟩
                              (try simp only [e13, e14, e15, e16, e17, Pi.eta, Pu.eta, Rg.eta])
                              (try clear e13 e14 e15 e16 e17)
                              all_goals
                                refine congrArg some ?_
                                (have hcc : 0 ≤ cc ∧ cc ≤ 10 := ⟨Int.not_lt.1 (of_decide_eq_false c2), Int.not_lt.1 (of_decide_eq_false c3)⟩; have hg := gv_good c0 c1 hcc; obtain rfl := eqz c5; have hm := (bmay_iff a).1 c0; obtain ⟨⟨a0, a1⟩, ⟨a2, a3⟩, ⟨a4, a5⟩, a6, a7⟩ := Rg.wf_of ha; simp only [beq_iff_eq, beq_eq_false_iff_ne, ne_eq] at c7 c19 c26 c29 c30 c31; exact tup_Rg (gv_can (by omega) hg (gc_1 c6 (by omega) (by omega)) (gr_1 c6 (by (try simp only [add_u, sub_u, add_i, sub_i]); split <;> omega) (by (try simp only [add_u, sub_u, add_i, sub_i]); split <;> omega) (by (try simp only [add_u, sub_u, add_i, sub_i]); split <;> omega) (by (try simp only [add_u, sub_u, add_i, sub_i]); split <;> omega))).1 (gv_can (by omega) hg (gc_1 c6 (by omega) (by omega)) (gr_1 c6 (by (try simp only [add_u, sub_u, add_i, sub_i]); split <;> omega) (by (try simp only [add_u, sub_u, add_i, sub_i]); split <;> omega) (by (try simp only [add_u, sub_u, add_i, sub_i]); split <;> omega) (by (try simp only [add_u, sub_u, add_i, sub_i]); split <;> omega))).2)
                            · skip
                              rintro ⟨e13, e14, e15, e16, e17⟩
                              (try simp only [e13, e14, e15, e16, e17, Pi.eta, Pu.eta, Rg.eta])
                              (try clear e13 e14 e15 e16 e17)
                              all_goals
                                refine congrArg some ?_
                                (have hcc : 0 ≤ cc ∧ cc ≤ 10 := ⟨Int.not_lt.1 (of_decide_eq_false c2), Int.not_lt.1 (of_decide_eq_false c3)⟩; have hg := gv_good c0 c1 hcc; obtain rfl := eqz c5; have hm := (bmay_iff a).1 c0; obtain ⟨⟨a0, a1⟩, ⟨a2, a3⟩, ⟨a4, a5⟩, a6, a7⟩ := Rg.wf_of ha; simp only [beq_iff_eq, beq_eq_false_iff_ne, ne_eq] at c7 c19 c26 c29 c30 c31; exact tup_Rg (gv_can (by omega) hg (gc_1 c6 (by omega) (by omega)) (gr_1 c6 (by (try simp only [add_u, sub_u, add_i, sub_i]); split <;> omega) (by (try simp only [add_u, sub_u, add_i, sub_i]); split <;> omega) (by (try simp only [add_u, sub_u, add_i, sub_i]); split <;> omega) (by (try simp only [add_u, sub_u, add_i, sub_i]); split <;> omega))).1 (gv_can (by omega) hg (gc_1 c6 (by omega) (by omega)) (gr_1 c6 (by (try simp only [add_u, sub_u, add_i, sub_i]); split <;> omega) (by (try simp only [add_u, sub_u, add_i, sub_i]); split <;> omega) (by (try simp only [add_u, sub_u, add_i, sub_i]); split <;> omega) (by (try simp only [add_u, sub_u, add_i, sub_i]); split <;> omega))).2)
                        · skip
                          refine ⟨fun c32 => ?_, fun c32 => ?_⟩
                          · skip
                            rintro ⟨e13, e14, e15, e16, e17⟩
                            (try simp only [e13, e14, e15, e16, e17, Pi.eta, Pu.eta, Rg.eta])
                            (try clear e13 e14 e15 e16 e17)
                            all_goals
                              refine congrArg some ?_
                              (have hcc : 0 ≤ cc ∧ cc ≤ 10 := ⟨Int.not_lt.1 (of_decide_eq_false c2), Int.not_lt.1 (of_decide_eq_false c3)⟩; have hg := gv_good c0 c1 hcc; obtain rfl := eqz c5; have hm := (bmay_iff a).1 c0; obtain ⟨⟨a0, a1⟩, ⟨a2, a3⟩, ⟨a4, a5⟩, a6, a7⟩ := Rg.wf_of ha; simp only [beq_iff_eq, beq_eq_false_iff_ne, ne_eq] at c7 c19 c26 c29 c32; exact tup_Rg (gv_can (by omega) hg (gc_1 c6 (by omega) (by omega)) (gr_1 c6 (by (try simp only [add_u, sub_u, add_i, sub_i]); split <;> omega) (by (try simp only [add_u, sub_u, add_i, sub_i]); split <;> omega) (by (try simp only [add_u, sub_u, add_i, sub_i]); split <;> omega) (by (try simp only [add_u, sub_u, add_i, sub_i]); split <;> omega))).1 (gv_can (by omega) hg (gc_1 c6 (by omega) (by omega)) (gr_1 c6 (by (try simp only [add_u, sub_u, add_i, sub_i]); split <;> omega) (by (try simp only [add_u, sub_u, add_i, sub_i]); split <;> omega) (by (try simp only [add_u, sub_u, add_i, sub_i]); split <;> omega) (by (try simp only [add_u, sub_u, add_i, sub_i]); split <;> omega))).2)
                          · skip
                            refine ⟨fun c33 => ?_, fun c33 => ?_⟩
                            · skip
                              rintro ⟨e13, e14, e15, e16, e17⟩
                              (try simp only [e13, e14, e15, e16, e17, Pi.eta, Pu.eta, Rg.eta])
                              (try clear e13 e14 e15 e16 e17)
                              all_goals
                                refine congrArg some ?_
                                (have hcc : 0 ≤ cc ∧ cc ≤ 10 := ⟨Int.not_lt.1 (of_decide_eq_false c2), Int.not_lt.1 (of_decide_eq_false c3)⟩; have hg := gv_good c0 c1 hcc; obtain rfl := eqz c5; have hm := (bmay_iff a).1 c0; obtain ⟨⟨a0, a1⟩, ⟨a2, a3⟩, ⟨a4, a5⟩, a6, a7⟩ := Rg.wf_of ha; simp only [beq_iff_eq, beq_eq_false_iff_ne, ne_eq] at c7 c19 c26 c29 c32 c33; exact tup_Rg (gv_can (by omega) hg (gc_1 c6 (by omega) (by omega)) (gr_1 c6 (by (try simp only [add_u, sub_u, add_i, sub_i]); split <;> omega) (by (try simp only [add_u, sub_u, add_i, sub_i]); split <;> omega) (by (try simp only [add_u, sub_u, add_i, sub_i]); split <;> omega) (by (try simp only [add_u, sub_u, add_i, sub_i]); split <;> omega))).1 (gv_can (by omega) hg (gc_1 c6 (by omega) (by omega)) (gr_1 c6 (by (try simp only [add_u, sub_u, add_i, sub_i]); split <;> omega) (by (try simp only [add_u, sub_u, add_i, sub_i]); split <;> omega) (by (try simp only [add_u, sub_u, add_i, sub_i]); split <;> omega) (by (try simp only [add_u, sub_u, add_i, sub_i]); split <;> omega))).2)
                            · skip
                              rintro ⟨e13, e14, e15, e16, e17⟩
                              (try simp only [e13, e14, e15, e16, e17, Pi.eta, Pu.eta, Rg.eta])
                              (try clear e13 e14 e15 e16 e17)
                              all_goals
                                refine congrArg some ?_
                                (have hcc : 0 ≤ cc ∧ cc ≤ 10 := ⟨Int.not_lt.1 (of_decide_eq_false c2), Int.not_lt.1 (of_decide_eq_false c3)⟩; have hg := gv_good c0 c1 hcc; obtain rfl := eqz c5; have hm := (bmay_iff a).1 c0; obtain ⟨⟨a0, a1⟩, ⟨a2, a3⟩, ⟨a4, a5⟩, a6, a7⟩ := Rg.wf_of ha; simp only [beq_iff_eq, beq_eq_false_iff_ne, ne_eq] at c7 c19 c26 c29 c32 c33; exact tup_Rg (gv_can (by omega) hg (gc_1 c6 (by omega) (by omega)) (gr_1 c6 (by (try simp only [add_u, sub_u, add_i, sub_i]); split <;> omega) (by (try simp only [add_u, sub_u, add_i, sub_i]); split <;> omega) (by (try simp only [add_u, sub_u, add_i, sub_i]); split <;> omega) (by (try simp only [add_u, sub_u, add_i, sub_i]); split <;> omega))).1 (gv_can (by omega) hg (gc_1 c6 (by omega) (by omega)) (gr_1 c6 (by (try simp only [add_u, sub_u, add_i, sub_i]); split <;> omega) (by (try simp only [add_u, sub_u, add_i, sub_i]); split <;> omega) (by (try simp only [add_u, sub_u, add_i, sub_i]); split <;> omega) (by (try simp only [add_u, sub_u, add_i, sub_i]); split <;> omega))).2)
                · skip
                  rintro ⟨e13, e14, e15, e16, e17⟩
                  (try simp only [e13, e14, e15, e16, e17, Pi.eta, Pu.eta, Rg.eta])
                  (try clear e13 e14 e15 e16 e17)
                  all_goals
                    refine congrArg some ?_
                    (have hcc : 0 ≤ cc ∧ cc ≤ 10 := ⟨Int.not_lt.1 (of_decide_eq_false c2), Int.not_lt.1 (of_decide_eq_false c3)⟩; have hg := gv_good c0 c1 hcc; obtain rfl := eqz c5; exact tup_Rg (gv_can (by omega) hg (gvc_1n ha hb c6) (gvr_1n ha hb c6)).1 (gv_can (by omega) hg (gvc_1n ha hb c6) (gvr_1n ha hb c6)).2)
              · skip
                refine ⟨fun c34 => ?_, fun c34 => ?_⟩
                · skip
                  refine ⟨fun c35 => ?_, fun c35 => ?_⟩
                  · skip
                    rintro ⟨e11, e12, e13, e14⟩
                    (try simp only [e11, e12, e13, e14, Pi.eta, Pu.eta, Rg.eta])
                    (try clear e11 e12 e13 e14)
                    all_goals
                      refine congrArg some ?_
                      (have hcc : 0 ≤ cc ∧ cc ≤ 10 := ⟨Int.not_lt.1 (of_decide_eq_false c2), Int.not_lt.1 (of_decide_eq_false c3)⟩; have hg := gv_good c0 c1 hcc; obtain rfl := eqz c34; obtain ⟨⟨b0, b1⟩, ⟨b2, b3⟩, ⟨b4, b5⟩, b6, b7⟩ := Rg.wf_of hb; exact tup_Rg (gv_not (.inr ⟨by omega, by have h := eqz c35; simp [bcan, h]⟩)).1 (gv_not (.inr ⟨by omega, by have h := eqz c35; simp [bcan, h]⟩)).2)
                  · skip
                    rintro ⟨e11, e12, e13, e14, e15⟩
                    (try simp only [e11, e12, e13, e14, e15, Pi.eta, Pu.eta, Rg.eta])
                    (try clear e11 e12 e13 e14 e15)
                    all_goals
                      refine congrArg some ?_
                      (have hcc : 0 ≤ cc ∧ cc ≤ 10 := ⟨Int.not_lt.1 (of_decide_eq_false c2), Int.not_lt.1 (of_decide_eq_false c3)⟩; have hg := gv_good c0 c1 hcc; obtain rfl := eqz c34; obtain ⟨⟨b0, b1⟩, ⟨b2, b3⟩, ⟨b4, b5⟩, b6, b7⟩ := Rg.wf_of hb; exact tup_Rg (gv_can (by omega) hg (by have h := nez c35; simp [bcan, h]) (by have h := nez c35; (try simp only [add_u, sub_u, add_i, sub_i]); rw [Rg.ext_iff]; unfold brng; simp; omega)).1 (gv_can (by omega) hg (by have h := nez c35; simp [bcan, h]) (by have h := nez c35; (try simp only [add_u, sub_u, add_i, sub_i]); rw [Rg.ext_iff]; unfold brng; simp; omega)).2)
                · skip
                  refine ⟨fun c36 => ?_, fun c36 => ?_⟩
                  · skip
                    rintro ⟨e11, e12, e13, e14, e15⟩
                    (try simp only [e11, e12, e13, e14, e15, Pi.eta, Pu.eta, Rg.eta])
                    (try clear e11 e12 e13 e14 e15)
                    all_goals
                      refine congrArg some ?_
                      (have hcc : 0 ≤ cc ∧ cc ≤ 10 := ⟨Int.not_lt.1 (of_decide_eq_false c2), Int.not_lt.1 (of_decide_eq_false c3)⟩; have hg := gv_good c0 c1 hcc; obtain rfl := eqz c36; exact tup_Rg (gv_can (by omega) hg (by simp [bcan]) (by simp [brng])).1 (gv_can (by omega) hg (by simp [bcan]) (by simp [brng])).2)
                  · skip
                    refine ⟨fun c37 => ?_, fun c37 => ?_⟩
                    · skip
                      refine ⟨fun c38 => ?_, fun c38 => ?_⟩
                      · skip
                        rintro ⟨e11, e12, e13, e14⟩
                        (try simp only [e11, e12, e13, e14, Pi.eta, Pu.eta, Rg.eta])
                        (try clear e11 e12 e13 e14)
                        all_goals
                          refine congrArg some ?_
                          (have hcc : 0 ≤ cc ∧ cc ≤ 10 := ⟨Int.not_lt.1 (of_decide_eq_false c2), Int.not_lt.1 (of_decide_eq_false c3)⟩; have hg := gv_good c0 c1 hcc; obtain rfl := eqz c37; obtain ⟨⟨b0, b1⟩, ⟨b2, b3⟩, ⟨b4, b5⟩, b6, b7⟩ := Rg.wf_of hb; exact tup_Rg (gv_not (.inr ⟨by omega, by have h := eqz c38; simp [bcan, h]⟩)).1 (gv_not (.inr ⟨by omega, by have h := eqz c38; simp [bcan, h]⟩)).2)
                      · skip
                        rintro ⟨e11, e12, e13, e14, e15⟩
                        (try simp only [e11, e12, e13, e14, e15, Pi.eta, Pu.eta, Rg.eta])
                        (try clear e11 e12 e13 e14 e15)
                        all_goals
                          refine congrArg some ?_
                          (have hcc : 0 ≤ cc ∧ cc ≤ 10 := ⟨Int.not_lt.1 (of_decide_eq_false c2), Int.not_lt.1 (of_decide_eq_false c3)⟩; have hg := gv_good c0 c1 hcc; obtain rfl := eqz c37; obtain ⟨⟨b0, b1⟩, ⟨b2, b3⟩, ⟨b4, b5⟩, b6, b7⟩ := Rg.wf_of hb; exact tup_Rg (gv_can (by omega) hg (by have h := nez c38; simp [bcan, h]) (by have h := nez c38; (try simp only [add_u, sub_u, add_i, sub_i]); rw [Rg.ext_iff]; unfold brng; simp; omega)).1 (gv_can (by omega) hg (by have h := nez c38; simp [bcan, h]) (by have h := nez c38; (try simp only [add_u, sub_u, add_i, sub_i]); rw [Rg.ext_iff]; unfold brng; simp; omega)).2)
                    · skip
                      refine ⟨fun c39 => ?_, fun c39 => ?_⟩
                      · skip
                        rintro ⟨e11, e12, e13, e14, e15⟩
                        (try simp only [e11, e12, e13, e14, e15, Pi.eta, Pu.eta, Rg.eta])
                        (try clear e11 e12 e13 e14 e15)
                        all_goals
                          refine congrArg some ?_
                          (have hcc : 0 ≤ cc ∧ cc ≤ 10 := ⟨Int.not_lt.1 (of_decide_eq_false c2), Int.not_lt.1 (of_decide_eq_false c3)⟩; have hg := gv_good c0 c1 hcc; obtain rfl := eqz c39; exact tup_Rg (gv_can (by omega) hg (by simp [bcan]) (by simp [brng])).1 (gv_can (by omega) hg (by simp [bcan]) (by simp [brng])).2)
                      · skip
                        refine ⟨fun c40 => ?_, fun c40 => ?_⟩
                        · skip
                          refine ⟨fun c41 => ?_, fun c41 => ?_⟩
                          · skip
                            rintro ⟨e11, e12, e13, e14⟩
                            (try simp only [e11, e12, e13, e14, Pi.eta, Pu.eta, Rg.eta])
                            (try clear e11 e12 e13 e14)
                            all_goals
                              refine congrArg some ?_
                              (have hcc : 0 ≤ cc ∧ cc ≤ 10 := ⟨Int.not_lt.1 (of_decide_eq_false c2), Int.not_lt.1 (of_decide_eq_false c3)⟩; have hg := gv_good c0 c1 hcc; obtain rfl := eqz c40; obtain ⟨⟨b0, b1⟩, ⟨b2, b3⟩, ⟨b4, b5⟩, b6, b7⟩ := Rg.wf_of hb; exact tup_Rg (gv_not (.inr ⟨by omega, by have h := eqz c41; simp [bcan, h]⟩)).1 (gv_not (.inr ⟨by omega, by have h := eqz c41; simp [bcan, h]⟩)).2)
                          · skip
                            rintro ⟨e11, e12, e13, e14, e15⟩
                            (try simp only [e11, e12, e13, e14, e15, Pi.eta, Pu.eta, Rg.eta])
                            (try clear e11 e12 e13 e14 e15)
                            all_goals
                              refine congrArg some ?_
                              (have hcc : 0 ≤ cc ∧ cc ≤ 10 := ⟨Int.not_lt.1 (of_decide_eq_false c2), Int.not_lt.1 (of_decide_eq_false c3)⟩; have hg := gv_good c0 c1 hcc; obtain rfl := eqz c40; obtain ⟨⟨b0, b1⟩, ⟨b2, b3⟩, ⟨b4, b5⟩, b6, b7⟩ := Rg.wf_of hb; exact tup_Rg (gv_can (by omega) hg (by have h := nez c41; simp [bcan, h]) (by have h := nez c41; (try simp only [add_u, sub_u, add_i, sub_i]); rw [Rg.ext_iff]; unfold brng; simp; omega)).1 (gv_can (by omega) hg (by have h := nez c41; simp [bcan, h]) (by have h := nez c41; (try simp only [add_u, sub_u, add_i, sub_i]); rw [Rg.ext_iff]; unfold brng; simp; omega)).2)
                        · skip
                          refine ⟨fun c42 => ?_, fun c42 => ?_⟩
                          · skip
                            rintro ⟨e11, e12, e13, e14, e15⟩
                            (try simp only [e11, e12, e13, e14, e15, Pi.eta, Pu.eta, Rg.eta])
                            (try clear e11 e12 e13 e14 e15)
                            all_goals
                              refine congrArg some ?_
                              (have hcc : 0 ≤ cc ∧ cc ≤ 10 := ⟨Int.not_lt.1 (of_decide_eq_false c2), Int.not_lt.1 (of_decide_eq_false c3)⟩; have hg := gv_good c0 c1 hcc; obtain rfl := eqz c42; exact tup_Rg (gv_can (by omega) hg (by simp [bcan]) (by simp [brng])).1 (gv_can (by omega) hg (by simp [bcan]) (by simp [brng])).2)
                          · skip
                            refine ⟨fun c43 => ?_, fun c43 => ?_⟩
                            · skip
                              refine ⟨fun c44 => ?_, fun c44 => ?_⟩
                              · skip
                                rintro ⟨e11, e12, e13, e14⟩
                                (try simp only [e11, e12, e13, e14, Pi.eta, Pu.eta, Rg.eta])
                                (try clear e11 e12 e13 e14)
                                all_goals
                                  refine congrArg some ?_
                                  (have hcc : 0 ≤ cc ∧ cc ≤ 10 := ⟨Int.not_lt.1 (of_decide_eq_false c2), Int.not_lt.1 (of_decide_eq_false c3)⟩; have hg := gv_good c0 c1 hcc; obtain rfl := eqz c43; obtain ⟨⟨b0, b1⟩, ⟨b2, b3⟩, ⟨b4, b5⟩, b6, b7⟩ := Rg.wf_of hb; exact tup_Rg (gv_not (.inr ⟨by omega, by have h := eqz c44; simp [bcan, h]⟩)).1 (gv_not (.inr ⟨by omega, by have h := eqz c44; simp [bcan, h]⟩)).2)
                              · skip
                                rintro ⟨e11, e12, e13, e14, e15⟩
                                (try simp only [e11, e12, e13, e14, e15, Pi.eta, Pu.eta, Rg.eta])
                                (try clear e11 e12 e13 e14 e15)
                                all_goals
                                  refine congrArg some ?_
                                  (have hcc : 0 ≤ cc ∧ cc ≤ 10 := ⟨Int.not_lt.1 (of_decide_eq_false c2), Int.not_lt.1 (of_decide_eq_false c3)⟩; have hg := gv_good c0 c1 hcc; obtain rfl := eqz c43; obtain ⟨⟨b0, b1⟩, ⟨b2, b3⟩, ⟨b4, b5⟩, b6, b7⟩ := Rg.wf_of hb; exact tup_Rg (gv_can (by omega) hg (by have h := nez c44; simp [bcan, h]) (by have h := nez c44; (try simp only [add_u, sub_u, add_i, sub_i]); rw [Rg.ext_iff]; unfold brng; simp; omega)).1 (gv_can (by omega) hg (by have h := nez c44; simp [bcan, h]) (by have h := nez c44; (try simp only [add_u, sub_u, add_i, sub_i]); rw [Rg.ext_iff]; unfold brng; simp; omega)).2)
                            · skip
                              refine ⟨fun c45 => ?_, fun c45 => ?_⟩
                              · skip
                                rintro ⟨e11, e12, e13, e14, e15⟩
                                (try simp only [e11, e12, e13, e14, e15, Pi.eta, Pu.eta, Rg.eta])
                                (try clear e11 e12 e13 e14 e15)
                                all_goals
                                  refine congrArg some ?_
                                  (have hcc : 0 ≤ cc ∧ cc ≤ 10 := ⟨Int.not_lt.1 (of_decide_eq_false c2), Int.not_lt.1 (of_decide_eq_false c3)⟩; have hg := gv_good c0 c1 hcc; obtain rfl := eqz c45; exact tup_Rg (gv_can (by omega) hg (by simp [bcan]) (by simp [brng])).1 (gv_can (by omega) hg (by simp [bcan]) (by simp [brng])).2)
                              · skip
                                rintro ⟨e11, e12, e13, e14, e15⟩
                                (try simp only [e11, e12, e13, e14, e15, Pi.eta, Pu.eta, Rg.eta])
                                (try clear e11 e12 e13 e14 e15)
                                all_goals
                                  refine congrArg some ?_
                                  (have hcc : 0 ≤ cc ∧ cc ≤ 10 := ⟨Int.not_lt.1 (of_decide_eq_false c2), Int.not_lt.1 (of_decide_eq_false c3)⟩; have hg := gv_good c0 c1 hcc; obtain rfl : cc = 10 := (by have := nez c4; have h1 := nez c5; have h2 := nez c34; have h3 := nez c36; have h4 := nez c37; have h5 := nez c39; have h6 := nez c40; have h7 := nez c42; have h8 := nez c43; have h9 := nez c45; omega); have hq := gv_can (by omega) hg (gvc_10 ha hb) (gvr_10 ha hb); exact tup_Rg hq.1 hq.2)
      · skip
        rintro ⟨e11, e12, e13, e14⟩
        (try simp only [e11, e12, e13, e14, Pi.eta, Pu.eta, Rg.eta])
        (try clear e11 e12 e13 e14)
        all_goals
          refine congrArg some ?_
          exact tup_Rg (gv_not (.inl (by unfold bgood; rw [c0, c1]; rfl))).1 (gv_not (.inl (by unfold bgood; rw [c0, c1]; rfl))).2
    · skip
      rintro ⟨e10, e11, e12, e13⟩
      (try simp only [e10, e11, e12, e13, Pi.eta, Pu.eta, Rg.eta])
      (try clear e10 e11 e12 e13)
      all_goals
        refine congrArg some ?_
        exact tup_Rg (gv_not (.inl (by unfold bgood; rw [c0]; rfl))).1 (gv_not (.inl (by unfold bgood; rw [c0]; rfl))).2
def sM_rgiv (key : Nat) : Sm := ⟨20, key, [(false, [.int .i8]), (true, [.int .u64, .int .u64, .int .i64, .int .i64]), (true, [.int .u64, .int .u64, .int .i64, .int .i64])], [(true, [.int .u64, .int .u64, .int .i64, .int .i64]), (false, [.bool])], true⟩
def sI_rgiv : Nat → List Int → Int
  | 0, [x0, x1, x2, x3, x4, x5, x6, x7, x8] => (fun (cc : Int) (a : Rg) (b : Rg) => (bgiv cc a b).ul) x0 ⟨x1, x2, x3, x4⟩ ⟨x5, x6, x7, x8⟩
  | 1, [x0, x1, x2, x3, x4, x5, x6, x7, x8] => (fun (cc : Int) (a : Rg) (b : Rg) => (bgiv cc a b).uh) x0 ⟨x1, x2, x3, x4⟩ ⟨x5, x6, x7, x8⟩
  | 2, [x0, x1, x2, x3, x4, x5, x6, x7, x8] => (fun (cc : Int) (a : Rg) (b : Rg) => (bgiv cc a b).sl) x0 ⟨x1, x2, x3, x4⟩ ⟨x5, x6, x7, x8⟩
  | 3, [x0, x1, x2, x3, x4, x5, x6, x7, x8] => (fun (cc : Int) (a : Rg) (b : Rg) => (bgiv cc a b).sh) x0 ⟨x1, x2, x3, x4⟩ ⟨x5, x6, x7, x8⟩
  | _, _ => 0
def sB_rgiv : Nat → List Int → Bool
  | 4, [x0, x1, x2, x3, x4, x5, x6, x7, x8] => (fun (cc : Int) (a : Rg) (b : Rg) => bgok cc a b) x0 ⟨x1, x2, x3, x4⟩ ⟨x5, x6, x7, x8⟩
  | _, _ => false
theorem sK_rgiv {sp : Spec} {key : Nat} (hI : sp.I key = sI_rgiv) (hB : sp.B key = sB_rgiv) : SmOk Try.prog sp (sM_rgiv key) := by
  refine SmOk.of (.inl ⟨run_enter Try.func20 (by kernel_rfl) (by kernel_rfl), fun xs vals h => ?_⟩) (.inl rfl)
  obtain ⟨_, _, _, d1, h1, rfl⟩ := shO h
  obtain ⟨x0, rfl, rfl, gx0⟩ := ckI d1
  obtain ⟨_, _, _, p2, h2, rfl⟩ := shA h1
  obtain ⟨_, _, _, d2_0, p2_0, rfl⟩ := cksC p2
  obtain ⟨x1, rfl, rfl, gx1⟩ := ckI d2_0
  obtain ⟨_, _, _, d2_1, p2_1, rfl⟩ := cksC p2_0
  obtain ⟨x2, rfl, rfl, gx2⟩ := ckI d2_1
  obtain ⟨_, _, _, d2_2, p2_2, rfl⟩ := cksC p2_1
  obtain ⟨x3, rfl, rfl, gx3⟩ := ckI d2_2
  obtain ⟨_, _, _, d2_3, p2_3, rfl⟩ := cksC p2_2
  obtain ⟨x4, rfl, rfl, gx4⟩ := ckI d2_3
  obtain ⟨rfl, rfl⟩ := cksN p2_3
  obtain ⟨_, _, _, p3, h3, rfl⟩ := shA h2
  obtain ⟨_, _, _, d3_0, p3_0, rfl⟩ := cksC p3
  obtain ⟨x5, rfl, rfl, gx5⟩ := ckI d3_0
  obtain ⟨_, _, _, d3_1, p3_1, rfl⟩ := cksC p3_0
  obtain ⟨x6, rfl, rfl, gx6⟩ := ckI d3_1
  obtain ⟨_, _, _, d3_2, p3_2, rfl⟩ := cksC p3_1
  obtain ⟨x7, rfl, rfl, gx7⟩ := ckI d3_2
  obtain ⟨_, _, _, d3_3, p3_3, rfl⟩ := cksC p3_2
  obtain ⟨x8, rfl, rfl, gx8⟩ := ckI d3_3
  obtain ⟨rfl, rfl⟩ := cksN p3_3
  obtain ⟨rfl, rfl⟩ := shN h3
  refine ⟨_, sX_rgiv x0 gx0 ⟨x1, x2, x3, x4⟩ ⟨gx1, gx2, gx3, gx4⟩ ⟨x5, x6, x7, x8⟩ ⟨gx5, gx6, gx7, gx8⟩, fun ρ v0 he => ?_⟩
  have he' : ρ.i (v0 + 0) = sp.I key 0 [x0, x1, x2, x3, x4, x5, x6, x7, x8] ∧ ρ.i (v0 + 1) = sp.I key 1 [x0, x1, x2, x3, x4, x5, x6, x7, x8] ∧ ρ.i (v0 + 2) = sp.I key 2 [x0, x1, x2, x3, x4, x5, x6, x7, x8] ∧ ρ.i (v0 + 3) = sp.I key 3 [x0, x1, x2, x3, x4, x5, x6, x7, x8] ∧ ρ.b (v0 + 4) = sp.B key 4 [x0, x1, x2, x3, x4, x5, x6, x7, x8] ∧ True := he
  simp only [hI, hB] at he'
  obtain ⟨e0, e1, e2, e3, e4, -⟩ := he'
  show some (.tuple #[.agg #[.int .u64 (ρ.i (v0 + 0)), .int .u64 (ρ.i (v0 + 1)), .int .i64 (ρ.i (v0 + 2)), .int .i64 (ρ.i (v0 + 3))], .bool (ρ.b (v0 + 4))] : Value) = _
  rw [e0, e1, e2, e3, e4]
  rfl
end Go.Proofs.Ytcngfmhhaleoaaa
