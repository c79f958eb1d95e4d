/- The law BoundsTells, by the symbolic run. -/
import Derived.Test.YtcngfmhhaleoaaaXbO
import Derived.Test.YtcngfmhhaleoaaaXbF
import Derived.Test.YtcngfmhhaleoaaaProg
import Derived.Laws.Externs
set_option linter.unusedVariables false
set_option linter.unusedSimpArgs false
namespace Go.Proofs.Ytcngfmhhaleoaaa
open Go.RowKit Go.ChangeShapes Go.WideShapes

def tys_XbP : List (Nat × TI) := [(2, ⟨false, 1, [.int .i64 (.lit 0)], [], none, some .i64, false, false⟩),
  (4, ⟨false, 1, [.bool (.tt false)], [], none, none, false, true⟩),
  (22, ⟨false, 1, [.int .u64 (.lit 0)], [], none, some .u64, false, false⟩),
  (24, ⟨true, 4, [.int .u64 (.lit 0), .int .u64 (.lit 0), .int .i64 (.lit 0), .int .i64 (.lit 0)], [(0, 22), (1, 22), (2, 2), (3, 2)], none, none, true, false⟩)]
set_option maxRecDepth 100000 in
theorem tysck_XbP : (tys_XbP.all fun p => ckTI Try.prog p.1 p.2) = true := by kernel_rfl
theorem tyseq_XbP : (tys_XbP.all fun p => !p.2.eqok || ((Nat.beq p.1 24 && kindsC p.2.zero z_Rg))) = true := by kernel_rfl
theorem tysok_XbP : ∀ t i, (t, i) ∈ tys_XbP → TIok Try.prog t i := by
  intro t i h
  have h1 := List.all_eq_true.1 tyseq_XbP (t, i) h
  have h2 : i.eqok = true → (t = 24 ∧ kindsC i.zero z_Rg = true) := by
    intro he
    simp only [he, Bool.not_true, Bool.false_or, Bool.or_eq_true, Bool.and_eq_true] at h1
    exact ⟨Nat.eq_of_beq_eq_true h1.1, h1.2⟩
  refine TIok_of (all_at (f := ckTI Try.prog) tysck_XbP h) (fun he => ?_) (fun he => ?_)
  · rcases h2 he with ⟨rfl, hs⟩
    · exact fun vs us hv hu => eq_Rg vs us (kindsV_of hs hv) (kindsV_of hs hu)
  · rcases h2 he with ⟨rfl, hs⟩
    · exact grd_Rg
def sT_tells : Tr :=
(.call 0 [.int .u64, .int .u64, .int .i64, .int .i64, .bool] (.cons (.var 2) (.cons (.var 3) (.cons (.var 4) (.cons (.var 5) (.cons (.var 6) (.cons (.var 7) (.cons (.var 8) (.cons (.var 9) .nil)))))))) 11
 (.call 1 [.int .u64, .int .u64, .int .i64, .int .i64, .bool] (.cons (.var 2) (.cons (.var 3) (.cons (.var 4) (.cons (.var 5) (.cons (.var 6) (.cons (.var 7) (.cons (.var 8) (.cons (.var 9) .nil)))))))) 16
 (.call 2 [.int .u64, .int .u64, .int .i64, .int .i64, .bool] (.cons (.var 1) (.cons (.var 2) (.cons (.var 3) (.cons (.var 4) (.cons (.var 5) (.cons (.var 6) (.cons (.var 7) (.cons (.var 8) (.cons (.var 9) .nil))))))))) 21
 (.call 3 [.int .u64, .int .u64, .int .i64, .int .i64, .bool] (.cons (.var 1) (.cons (.var 2) (.cons (.var 3) (.cons (.var 4) (.cons (.var 5) (.cons (.var 6) (.cons (.var 7) (.cons (.var 8) (.cons (.var 9) .nil))))))))) 26
 (.call 4 [.int .u64, .bool] (.cons (.var 2) (.cons (.var 3) (.cons (.var 4) (.cons (.var 5) .nil)))) 31
 (.call 5 [.int .u64, .bool] (.cons (.var 2) (.cons (.var 3) (.cons (.var 4) (.cons (.var 5) .nil)))) 33
 (.call 6 [.int .u64, .int .u64, .int .i64, .int .i64, .bool] (.cons (.var 2) (.cons (.var 3) (.cons (.var 4) (.cons (.var 5) .nil)))) 35
 (.call 7 [.int .u64, .int .u64, .int .i64, .int .i64, .bool] (.cons (.var 2) (.cons (.var 3) (.cons (.var 4) (.cons (.var 5) .nil)))) 40
 (.br (.eq (.var 11) (.var 16))
 (.br (.eq (.var 12) (.var 17))
  (.br (.eq (.var 13) (.var 18))
   (.br (.eq (.var 14) (.var 19))
    (.br (.beq (.bvar 15) (.bvar 20))
     (.br (.eq (.var 21) (.var 26))
      (.br (.eq (.var 22) (.var 27))
       (.br (.eq (.var 23) (.var 28))
        (.br (.eq (.var 24) (.var 29))
         (.br (.beq (.bvar 25) (.bvar 30))
          (.br (.eq (.var 31) (.var 33))
           (.br (.beq (.bvar 32) (.bvar 34))
            (.br (.eq (.var 35) (.var 40))
             (.br (.eq (.var 36) (.var 41))
              (.br (.eq (.var 37) (.var 42))
               (.br (.eq (.var 38) (.var 43))
                (.br (.beq (.bvar 39) (.bvar 44))
                 (.call 8 [.bool] (.cons (.var 2) (.cons (.var 3) (.cons (.var 4) (.cons (.var 5) .nil)))) 45
                  (.call 9 [.bool] (.cons (.var 2) (.cons (.var 3) (.cons (.var 4) (.cons (.var 5) .nil)))) 46
                  (.br (.beq (.bvar 45) (.bvar 46))
                  (.call 10 [.int .u64, .int .u64, .int .i64, .int .i64] .nil 47
                   (.call 11 [.int .u64, .int .u64, .int .i64, .int .i64] .nil 51
                   (.br (.eq (.var 47) (.var 51))
                   (.br (.eq (.var 48) (.var 52))
                    (.br (.eq (.var 49) (.var 53))
                     (.br (.eq (.var 50) (.var 54))
                      (.call 12 [.int .u64, .int .u64, .int .i64, .int .i64] (.cons (.var 10) .nil) 55
                       (.call 13 [.int .u64, .int .u64, .int .i64, .int .i64] (.cons (.var 10) .nil) 59
                       (.br (.eq (.var 55) (.var 59))
                       (.br (.eq (.var 56) (.var 60))
                        (.br (.eq (.var 57) (.var 61))
                         (.br (.eq (.var 58) (.var 62))
                          (.call 14 [.bool] (.cons (.var 2) (.cons (.var 3) (.cons (.var 4) (.cons (.var 5) (.cons (.var 10) .nil))))) 63
                           (.call 15 [.bool] (.cons (.var 2) (.cons (.var 3) (.cons (.var 4) (.cons (.var 5) (.cons (.var 10) .nil))))) 64
                           (.br (.beq (.bvar 63) (.bvar 64))
                           (.call 16 [.int .u64, .int .u64, .int .i64, .int .i64] (.cons (.var 2) (.cons (.var 3) (.cons (.var 4) (.cons (.var 5) (.cons (.var 6) (.cons (.var 7) (.cons (.var 8) (.cons (.var 9) .nil)))))))) 65
                            (.call 17 [.int .u64, .int .u64, .int .i64, .int .i64] (.cons (.var 2) (.cons (.var 3) (.cons (.var 4) (.cons (.var 5) (.cons (.var 6) (.cons (.var 7) (.cons (.var 8) (.cons (.var 9) .nil)))))))) 69
                            (.br (.eq (.var 65) (.var 69))
                            (.br (.eq (.var 66) (.var 70))
                             (.br (.eq (.var 67) (.var 71))
                              (.br (.eq (.var 68) (.var 72))
                               (.call 18 [.bool] (.cons (.var 2) (.cons (.var 3) (.cons (.var 4) (.cons (.var 5) (.cons (.var 6) (.cons (.var 7) (.cons (.var 8) (.cons (.var 9) .nil)))))))) 73
                                (.call 19 [.bool] (.cons (.var 2) (.cons (.var 3) (.cons (.var 4) (.cons (.var 5) (.cons (.var 6) (.cons (.var 7) (.cons (.var 8) (.cons (.var 9) .nil)))))))) 74
                                (.br (.beq (.bvar 73) (.bvar 74))
                                (.call 20 [.int .u64, .int .u64, .int .i64, .int .i64] (.cons (.var 0) (.cons (.var 2) (.cons (.var 3) (.cons (.var 4) (.cons (.var 5) (.cons (.var 6) (.cons (.var 7) (.cons (.var 8) (.cons (.var 9) .nil))))))))) 75
                                 (.call 21 [.int .u64, .int .u64, .int .i64, .int .i64] (.cons (.var 0) (.cons (.var 2) (.cons (.var 3) (.cons (.var 4) (.cons (.var 5) (.cons (.var 6) (.cons (.var 7) (.cons (.var 8) (.cons (.var 9) .nil))))))))) 79
                                 (.br (.eq (.var 75) (.var 79))
                                 (.br (.eq (.var 76) (.var 80))
                                  (.br (.eq (.var 77) (.var 81))
                                   (.br (.eq (.var 78) (.var 82))
                                    (.call 22 [.int .u64, .int .u64, .int .i64, .int .i64] (.cons (.var 2) (.cons (.var 3) (.cons (.var 4) (.cons (.var 5) .nil)))) 83
                                     (.call 23 [.int .u64, .int .u64, .int .i64, .int .i64] (.cons (.var 2) (.cons (.var 3) (.cons (.var 4) (.cons (.var 5) .nil)))) 87
                                     (.br (.eq (.var 83) (.var 87))
                                     (.br (.eq (.var 84) (.var 88))
                                      (.br (.eq (.var 85) (.var 89))
                                       (.br (.eq (.var 86) (.var 90))
                                        (.call 24 [.bool] .nil 91
                                         (.leaf (.one (.bool (.bvar 91)))))
                                        (.leaf (.one (.bool (.tt false)))))
                                       (.leaf (.one (.bool (.tt false)))))
                                      (.leaf (.one (.bool (.tt false)))))
                                     (.leaf (.one (.bool (.tt false)))))))
                                    (.leaf (.one (.bool (.tt false)))))
                                   (.leaf (.one (.bool (.tt false)))))
                                  (.leaf (.one (.bool (.tt false)))))
                                 (.leaf (.one (.bool (.tt false)))))))
                                (.leaf (.one (.bool (.tt false)))))))
                               (.leaf (.one (.bool (.tt false)))))
                              (.leaf (.one (.bool (.tt false)))))
                             (.leaf (.one (.bool (.tt false)))))
                            (.leaf (.one (.bool (.tt false)))))))
                           (.leaf (.one (.bool (.tt false)))))))
                          (.leaf (.one (.bool (.tt false)))))
                         (.leaf (.one (.bool (.tt false)))))
                        (.leaf (.one (.bool (.tt false)))))
                       (.leaf (.one (.bool (.tt false)))))))
                      (.leaf (.one (.bool (.tt false)))))
                     (.leaf (.one (.bool (.tt false)))))
                    (.leaf (.one (.bool (.tt false)))))
                   (.leaf (.one (.bool (.tt false)))))))
                  (.leaf (.one (.bool (.tt false)))))))
                 (.leaf (.one (.bool (.tt false)))))
                (.leaf (.one (.bool (.tt false)))))
               (.leaf (.one (.bool (.tt false)))))
              (.leaf (.one (.bool (.tt false)))))
             (.leaf (.one (.bool (.tt false)))))
            (.leaf (.one (.bool (.tt false)))))
           (.leaf (.one (.bool (.tt false)))))
          (.leaf (.one (.bool (.tt false)))))
         (.leaf (.one (.bool (.tt false)))))
        (.leaf (.one (.bool (.tt false)))))
       (.leaf (.one (.bool (.tt false)))))
      (.leaf (.one (.bool (.tt false)))))
     (.leaf (.one (.bool (.tt false)))))
    (.leaf (.one (.bool (.tt false)))))
   (.leaf (.one (.bool (.tt false)))))
  (.leaf (.one (.bool (.tt false)))))
 (.leaf (.one (.bool (.tt false)))))))))))))
def sP_tells : Spec := ⟨fun k => match k with | 0 => sI_meet | 1 => sI_rmeet | 2 => sI_given | 3 => sI_rgiv | 4 => sI_single | 5 => sI_rsingle | 6 => sI_nar | 7 => sI_rnar | 8 => sI_may | 9 => sI_rmay | 10 => sI_all | 11 => sI_rall | 12 => sI_one | 13 => sI_rone | 14 => sI_has | 15 => sI_rhas | 16 => sI_join | 17 => sI_rjoin | 18 => sI_in | 19 => sI_rin | 20 => sI_do | 21 => sI_rdo | 22 => sI_low | 23 => sI_rlow | 24 => sI_wakes | _ => fun _ _ => 0, fun k => match k with | 0 => sB_meet | 1 => sB_rmeet | 2 => sB_given | 3 => sB_rgiv | 4 => sB_single | 5 => sB_rsingle | 6 => sB_nar | 7 => sB_rnar | 8 => sB_may | 9 => sB_rmay | 10 => sB_all | 11 => sB_rall | 12 => sB_one | 13 => sB_rone | 14 => sB_has | 15 => sB_rhas | 16 => sB_join | 17 => sB_rjoin | 18 => sB_in | 19 => sB_rin | 20 => sB_do | 21 => sB_rdo | 22 => sB_low | 23 => sB_rlow | 24 => sB_wakes | _ => fun _ _ => false⟩
set_option maxRecDepth 100000 in
theorem sR_tells : funK ⟨tys_XbP, [sM_meet 0, sM_rmeet 1, sM_given 2, sM_rgiv 3, sM_single 4, sM_rsingle 5, sM_nar 6, sM_rnar 7, sM_may 8, sM_rmay 9, sM_all 10, sM_rall 11, sM_one 12, sM_rone 13, sM_has 14, sM_rhas 15, sM_join 16, sM_rjoin 17, sM_in 18, sM_rin 19, sM_do 20, sM_rdo 21, sM_low 22, sM_rlow 23, sM_wakes 24]⟩ 200 Try.f4 [.one (.int .i8 (.var 0)), .one (.int .i8 (.var 1)), .agg [.int .u64 (.var 2), .int .u64 (.var 3), .int .i64 (.var 4), .int .i64 (.var 5)], .agg [.int .u64 (.var 6), .int .u64 (.var 7), .int .i64 (.var 8), .int .i64 (.var 9)], .one (.int .u64 (.var 10))] ⟨[], [], [some .i8, some .i8, some .u64, some .u64, some .i64, some .i64, some .u64, some .u64, some .i64, some .i64, some .u64]⟩ = sT_tells := by kernel_rfl
set_option maxRecDepth 100000 in
set_option maxHeartbeats 8000000 in
theorem sX_tells (op : Int) (hop : inK .i8 op = true) (cc : Int) (hcc : inK .i8 cc = true) (a : Rg) (ha : Rg.ok a) (b : Rg) (hb : Rg.ok b) (v : Int) (hv : inK .u64 v = true) : (∀ w, Calls Try.prog 4 #[.int .i8 op, .int .i8 cc, .agg #[.int .u64 a.ul, .int .u64 a.uh, .int .i64 a.sl, .int .i64 a.sh], .agg #[.int .u64 b.ul, .int .u64 b.uh, .int .i64 b.sl, .int .i64 b.sh], .int .u64 v] w fun e w' => e = .returned (.bool true) ∧ Ext w w') ∧ valIn (.bool true) = true := by
  refine fun_calls (cx := ⟨tys_XbP, [sM_meet 0, sM_rmeet 1, sM_given 2, sM_rgiv 3, sM_single 4, sM_rsingle 5, sM_nar 6, sM_rnar 7, sM_may 8, sM_rmay 9, sM_all 10, sM_rall 11, sM_one 12, sM_rone 13, sM_has 14, sM_rhas 15, sM_join 16, sM_rjoin 17, sM_in 18, sM_rin 19, sM_do 20, sM_rdo 21, sM_low 22, sM_rlow 23, sM_wakes 24]⟩) (sp := sP_tells) (t := sT_tells) (by kernel_rfl) tysok_XbP (List.forall_mem_cons.2 ⟨sK_meet rfl rfl, List.forall_mem_cons.2 ⟨sK_rmeet rfl rfl, List.forall_mem_cons.2 ⟨sK_given rfl rfl, List.forall_mem_cons.2 ⟨sK_rgiv rfl rfl, List.forall_mem_cons.2 ⟨sK_single rfl rfl, List.forall_mem_cons.2 ⟨sK_rsingle rfl rfl, List.forall_mem_cons.2 ⟨sK_nar rfl rfl, List.forall_mem_cons.2 ⟨sK_rnar rfl rfl, List.forall_mem_cons.2 ⟨sK_may rfl rfl, List.forall_mem_cons.2 ⟨sK_rmay rfl rfl, List.forall_mem_cons.2 ⟨sK_all rfl rfl, List.forall_mem_cons.2 ⟨sK_rall rfl rfl, List.forall_mem_cons.2 ⟨sK_one rfl rfl, List.forall_mem_cons.2 ⟨sK_rone rfl rfl, List.forall_mem_cons.2 ⟨sK_has rfl rfl, List.forall_mem_cons.2 ⟨sK_rhas rfl rfl, List.forall_mem_cons.2 ⟨sK_join rfl rfl, List.forall_mem_cons.2 ⟨sK_rjoin rfl rfl, List.forall_mem_cons.2 ⟨sK_in rfl rfl, List.forall_mem_cons.2 ⟨sK_rin rfl rfl, List.forall_mem_cons.2 ⟨sK_do rfl rfl, List.forall_mem_cons.2 ⟨sK_rdo rfl rfl, List.forall_mem_cons.2 ⟨sK_low rfl rfl, List.forall_mem_cons.2 ⟨sK_rlow rfl rfl, List.forall_mem_cons.2 ⟨sK_wakes rfl rfl, fun _ h => (by cases h)⟩⟩⟩⟩⟩⟩⟩⟩⟩⟩⟩⟩⟩⟩⟩⟩⟩⟩⟩⟩⟩⟩⟩⟩⟩) (keys_of (by kernel_rfl)) Try.func4 ⟨fun n => ([op, cc, a.ul, a.uh, a.sl, a.sh, b.ul, b.uh, b.sl, b.sh, v] : List Int).getD n 0, fun n => ([false, false, false, false, false, false, false, false, false, false, false] : List Bool).getD n false⟩ sR_tells (by kernel_rfl) ?_ rfl (by intro p hp; cases hp) ?_ ?_
  · intro n k hk
    have hlt : n < 11 := by
      rcases Nat.lt_or_ge n 11 with h | h
      · exact h
      · rw [List.getElem?_eq_none h] at hk; cases hk
    rcases (show n = 0 ∨ n = 1 ∨ n = 2 ∨ n = 3 ∨ n = 4 ∨ n = 5 ∨ n = 6 ∨ n = 7 ∨ n = 8 ∨ n = 9 ∨ n = 10 by omega) with rfl | rfl | rfl | rfl | rfl | rfl | rfl | rfl | rfl | rfl | rfl
    · cases hk; exact hop
    · cases hk; exact hcc
    · cases hk; exact ha.1
    · cases hk; exact ha.2.1
    · cases hk; exact ha.2.2.1
    · cases hk; exact ha.2.2.2
    · cases hk; exact hb.1
    · cases hk; exact hb.2.1
    · cases hk; exact hb.2.2.1
    · cases hk; exact hb.2.2.2
    · cases hk; exact hv
  · intro ρ hag
    have g0 : ρ.i 0 = op := (hag 0 (by decide)).1.symm
    have g1 : ρ.i 1 = cc := (hag 1 (by decide)).1.symm
    have g2 : ρ.i 2 = a.ul := (hag 2 (by decide)).1.symm
    have g3 : ρ.i 3 = a.uh := (hag 3 (by decide)).1.symm
    have g4 : ρ.i 4 = a.sl := (hag 4 (by decide)).1.symm
    have g5 : ρ.i 5 = a.sh := (hag 5 (by decide)).1.symm
    have g6 : ρ.i 6 = b.ul := (hag 6 (by decide)).1.symm
    have g7 : ρ.i 7 = b.uh := (hag 7 (by decide)).1.symm
    have g8 : ρ.i 8 = b.sl := (hag 8 (by decide)).1.symm
    have g9 : ρ.i 9 = b.sh := (hag 9 (by decide)).1.symm
    have g10 : ρ.i 10 = v := (hag 10 (by decide)).1.symm
    show some ([.int .i8 (ρ.i 0), .int .i8 (ρ.i 1), .agg #[.int .u64 (ρ.i 2), .int .u64 (ρ.i 3), .int .i64 (ρ.i 4), .int .i64 (ρ.i 5)], .agg #[.int .u64 (ρ.i 6), .int .u64 (ρ.i 7), .int .i64 (ρ.i 8), .int .i64 (ρ.i 9)], .int .u64 (ρ.i 10)] : List Value) = _
    rw [g0, g1, g2, g3, g4, g5, g6, g7, g8, g9, g10]
  · intro ρ hag
    have g0 : ρ.i 0 = op := (hag 0 (by decide)).1.symm
    have g1 : ρ.i 1 = cc := (hag 1 (by decide)).1.symm
    have g2 : ρ.i 2 = a.ul := (hag 2 (by decide)).1.symm
    have g3 : ρ.i 3 = a.uh := (hag 3 (by decide)).1.symm
    have g4 : ρ.i 4 = a.sl := (hag 4 (by decide)).1.symm
    have g5 : ρ.i 5 = a.sh := (hag 5 (by decide)).1.symm
    have g6 : ρ.i 6 = b.ul := (hag 6 (by decide)).1.symm
    have g7 : ρ.i 7 = b.uh := (hag 7 (by decide)).1.symm
    have g8 : ρ.i 8 = b.sl := (hag 8 (by decide)).1.symm
    have g9 : ρ.i 9 = b.sh := (hag 9 (by decide)).1.symm
    have g10 : ρ.i 10 = v := (hag 10 (by decide)).1.symm
    simp only [sT_tells, Tr.asks, eqs, E.I, E.B, E.L, V.den, C.den, denL, den0, den0L, Option.map_some, Nat.add_zero, Nat.reduceAdd, and_true, Rg.eta, g0, g1, g2, g3, g4, g5, g6, g7, g8, g9, g10]
    simp only [sP_tells, b01, Pi.eta, Pu.eta, Rg.eta, sI_meet, sB_meet, sI_rmeet, sB_rmeet, sI_given, sB_given, sI_rgiv, sB_rgiv, sI_single, sB_single, sI_rsingle, sB_rsingle, sI_nar, sB_nar, sI_rnar, sB_rnar, sI_may, sB_may, sI_rmay, sB_rmay, sI_all, sB_all, sI_rall, sB_rall, sI_one, sB_one, sI_rone, sB_rone, sI_has, sB_has, sI_rhas, sB_rhas, sI_join, sB_join, sI_rjoin, sB_rjoin, sI_in, sB_in, sI_rin, sB_rin, sI_do, sB_do, sI_rdo, sB_rdo, sI_low, sB_low, sI_rlow, sB_rlow, sI_wakes, sB_wakes]
    rintro ⟨e11, e12, e13, e14, e15⟩
    (try simp only [e11, e12, e13, e14, e15, Pi.eta, Pu.eta, Rg.eta])
    (try clear e11 e12 e13 e14 e15)
    rintro ⟨e16, e17, e18, e19, e20⟩
    (try simp only [e16, e17, e18, e19, e20, Pi.eta, Pu.eta, Rg.eta])
    (try clear e16 e17 e18 e19 e20)
    rintro ⟨e21, e22, e23, e24, e25⟩
    (try simp only [e21, e22, e23, e24, e25, Pi.eta, Pu.eta, Rg.eta])
    (try clear e21 e22 e23 e24 e25)
    rintro ⟨e26, e27, e28, e29, e30⟩
    (try simp only [e26, e27, e28, e29, e30, Pi.eta, Pu.eta, Rg.eta])
    (try clear e26 e27 e28 e29 e30)
    rintro ⟨e31, e32⟩
    (try simp only [e31, e32, Pi.eta, Pu.eta, Rg.eta])
    (try clear e31 e32)
    rintro ⟨e33, e34⟩
    (try simp only [e33, e34, Pi.eta, Pu.eta, Rg.eta])
    (try clear e33 e34)
    rintro ⟨e35, e36, e37, e38, e39⟩
    (try simp only [e35, e36, e37, e38, e39, Pi.eta, Pu.eta, Rg.eta])
    (try clear e35 e36 e37 e38 e39)
    rintro ⟨e40, e41, e42, e43, e44⟩
    (try simp only [e40, e41, e42, e43, e44, Pi.eta, Pu.eta, Rg.eta])
    (try clear e40 e41 e42 e43 e44)
    refine ⟨fun c0 => ?_, fun c0 => ?_⟩
    · skip
      refine ⟨fun c1 => ?_, fun c1 => ?_⟩
      · skip
        refine ⟨fun c2 => ?_, fun c2 => ?_⟩
        · skip
          refine ⟨fun c3 => ?_, fun c3 => ?_⟩
          · skip
            refine ⟨fun c4 => ?_, fun c4 => ?_⟩
            · skip
              refine ⟨fun c5 => ?_, fun c5 => ?_⟩
              · skip
                refine ⟨fun c6 => ?_, fun c6 => ?_⟩
                · skip
                  refine ⟨fun c7 => ?_, fun c7 => ?_⟩
                  · skip
                    refine ⟨fun c8 => ?_, fun c8 => ?_⟩
                    · skip
                      refine ⟨fun c9 => ?_, fun c9 => ?_⟩
                      · skip
                        refine ⟨fun c10 => ?_, fun c10 => ?_⟩
                        · skip
                          refine ⟨fun c11 => ?_, fun c11 => ?_⟩
                          · skip
                            refine ⟨fun c12 => ?_, fun c12 => ?_⟩
                            · skip
                              refine ⟨fun c13 => ?_, fun c13 => ?_⟩
                              · skip
                                refine ⟨fun c14 => ?_, fun c14 => ?_⟩
                                · skip
                                  refine ⟨fun c15 => ?_, fun c15 => ?_⟩
                                  · skip
                                    refine ⟨fun c16 => ?_, fun c16 => ?_⟩
                                    · skip
                                      intro e45
                                      (try simp only [e45, Pi.eta, Pu.eta, Rg.eta])
                                      (try clear e45)
                                      intro e46
                                      (try simp only [e46, Pi.eta, Pu.eta, Rg.eta])
                                      (try clear e46)
                                      refine ⟨fun c17 => ?_, fun c17 => ?_⟩
                                      · skip
                                        rintro ⟨e47, e48, e49, e50⟩
                                        (try simp only [e47, e48, e49, e50, Pi.eta, Pu.eta, Rg.eta])
                                        (try clear e47 e48 e49 e50)
                                        rintro ⟨e51, e52, e53, e54⟩
                                        (try simp only [e51, e52, e53, e54, Pi.eta, Pu.eta, Rg.eta])
                                        (try clear e51 e52 e53 e54)
                                        refine ⟨fun c18 => ?_, fun c18 => ?_⟩
                                        · skip
                                          refine ⟨fun c19 => ?_, fun c19 => ?_⟩
                                          · skip
                                            refine ⟨fun c20 => ?_, fun c20 => ?_⟩
                                            · skip
                                              refine ⟨fun c21 => ?_, fun c21 => ?_⟩
                                              · skip
                                                rintro ⟨e55, e56, e57, e58⟩
                                                (try simp only [e55, e56, e57, e58, Pi.eta, Pu.eta, Rg.eta])
                                                (try clear e55 e56 e57 e58)
                                                rintro ⟨e59, e60, e61, e62⟩
                                                (try simp only [e59, e60, e61, e62, Pi.eta, Pu.eta, Rg.eta])
                                                (try clear e59 e60 e61 e62)
                                                refine ⟨fun c22 => ?_, fun c22 => ?_⟩
                                                · skip
                                                  refine ⟨fun c23 => ?_, fun c23 => ?_⟩
                                                  · skip
                                                    refine ⟨fun c24 => ?_, fun c24 => ?_⟩
                                                    · skip
                                                      refine ⟨fun c25 => ?_, fun c25 => ?_⟩
                                                      · skip
                                                        intro e63
                                                        (try simp only [e63, Pi.eta, Pu.eta, Rg.eta])
                                                        (try clear e63)
                                                        intro e64
                                                        (try simp only [e64, Pi.eta, Pu.eta, Rg.eta])
                                                        (try clear e64)
                                                        refine ⟨fun c26 => ?_, fun c26 => ?_⟩
                                                        · skip
                                                          rintro ⟨e65, e66, e67, e68⟩
                                                          (try simp only [e65, e66, e67, e68, Pi.eta, Pu.eta, Rg.eta])
                                                          (try clear e65 e66 e67 e68)
                                                          rintro ⟨e69, e70, e71, e72⟩
                                                          (try simp only [e69, e70, e71, e72, Pi.eta, Pu.eta, Rg.eta])
                                                          (try clear e69 e70 e71 e72)
                                                          refine ⟨fun c27 => ?_, fun c27 => ?_⟩
                                                          · skip
                                                            refine ⟨fun c28 => ?_, fun c28 => ?_⟩
                                                            · skip
                                                              refine ⟨fun c29 => ?_, fun c29 => ?_⟩
                                                              · skip
                                                                refine ⟨fun c30 => ?_, fun c30 => ?_⟩
                                                                · skip
                                                                  intro e73
                                                                  (try simp only [e73, Pi.eta, Pu.eta, Rg.eta])
                                                                  (try clear e73)
                                                                  intro e74
                                                                  (try simp only [e74, Pi.eta, Pu.eta, Rg.eta])
                                                                  (try clear e74)
                                                                  refine ⟨fun c31 => ?_, fun c31 => ?_⟩
                                                                  · skip
                                                                    rintro ⟨e75, e76, e77, e78⟩
                                                                    (try simp only [e75, e76, e77, e78, Pi.eta, Pu.eta, Rg.eta])
                                                                    (try clear e75 e76 e77 e78)
                                                                    rintro ⟨e79, e80, e81, e82⟩
                                                                    (try simp only [e79, e80, e81, e82, Pi.eta, Pu.eta, Rg.eta])
                                                                    (try clear e79 e80 e81 e82)
                                                                    refine ⟨fun c32 => ?_, fun c32 => ?_⟩
                                                                    · skip
                                                                      refine ⟨fun c33 => ?_, fun c33 => ?_⟩
                                                                      · skip
                                                                        refine ⟨fun c34 => ?_, fun c34 => ?_⟩
                                                                        · skip
                                                                          refine ⟨fun c35 => ?_, fun c35 => ?_⟩
                                                                          · skip
                                                                            rintro ⟨e83, e84, e85, e86⟩
                                                                            (try simp only [e83, e84, e85, e86, Pi.eta, Pu.eta, Rg.eta])
                                                                            (try clear e83 e84 e85 e86)
                                                                            rintro ⟨e87, e88, e89, e90⟩
                                                                            (try simp only [e87, e88, e89, e90, Pi.eta, Pu.eta, Rg.eta])
                                                                            (try clear e87 e88 e89 e90)
                                                                            refine ⟨fun c36 => ?_, fun c36 => ?_⟩
                                                                            · skip
                                                                              refine ⟨fun c37 => ?_, fun c37 => ?_⟩
                                                                              · skip
                                                                                refine ⟨fun c38 => ?_, fun c38 => ?_⟩
                                                                                · skip
                                                                                  refine ⟨fun c39 => ?_, fun c39 => ?_⟩
                                                                                  · skip
                                                                                    intro e91
                                                                                    (try simp only [e91, Pi.eta, Pu.eta, Rg.eta])
                                                                                    (try clear e91)
                                                                                    all_goals
                                                                                      refine congrArg some ?_
                                                                                      rfl
                                                                                  · skip
                                                                                    all_goals
                                                                                      refine congrArg some ?_
                                                                                      exact absurd c39 (by simp)
                                                                                · skip
                                                                                  all_goals
                                                                                    refine congrArg some ?_
                                                                                    exact absurd c38 (by simp)
                                                                              · skip
                                                                                all_goals
                                                                                  refine congrArg some ?_
                                                                                  exact absurd c37 (by simp)
                                                                            · skip
                                                                              all_goals
                                                                                refine congrArg some ?_
                                                                                exact absurd c36 (by simp)
                                                                          · skip
                                                                            all_goals
                                                                              refine congrArg some ?_
                                                                              exact absurd c35 (by simp)
                                                                        · skip
                                                                          all_goals
                                                                            refine congrArg some ?_
                                                                            exact absurd c34 (by simp)
                                                                      · skip
                                                                        all_goals
                                                                          refine congrArg some ?_
                                                                          exact absurd c33 (by simp)
                                                                    · skip
                                                                      all_goals
                                                                        refine congrArg some ?_
                                                                        exact absurd c32 (by simp)
                                                                  · skip
                                                                    all_goals
                                                                      refine congrArg some ?_
                                                                      exact absurd c31 (by simp)
                                                                · skip
                                                                  all_goals
                                                                    refine congrArg some ?_
                                                                    exact absurd c30 (by simp)
                                                              · skip
                                                                all_goals
                                                                  refine congrArg some ?_
                                                                  exact absurd c29 (by simp)
                                                            · skip
                                                              all_goals
                                                                refine congrArg some ?_
                                                                exact absurd c28 (by simp)
                                                          · skip
                                                            all_goals
                                                              refine congrArg some ?_
                                                              exact absurd c27 (by simp)
                                                        · skip
                                                          all_goals
                                                            refine congrArg some ?_
                                                            exact absurd c26 (by simp)
                                                      · skip
                                                        all_goals
                                                          refine congrArg some ?_
                                                          exact absurd c25 (by simp)
                                                    · skip
                                                      all_goals
                                                        refine congrArg some ?_
                                                        exact absurd c24 (by simp)
                                                  · skip
                                                    all_goals
                                                      refine congrArg some ?_
                                                      exact absurd c23 (by simp)
                                                · skip
                                                  all_goals
                                                    refine congrArg some ?_
                                                    exact absurd c22 (by simp)
                                              · skip
                                                all_goals
                                                  refine congrArg some ?_
                                                  exact absurd c21 (by simp)
                                            · skip
                                              all_goals
                                                refine congrArg some ?_
                                                exact absurd c20 (by simp)
                                          · skip
                                            all_goals
                                              refine congrArg some ?_
                                              exact absurd c19 (by simp)
                                        · skip
                                          all_goals
                                            refine congrArg some ?_
                                            exact absurd c18 (by simp)
                                      · skip
                                        all_goals
                                          refine congrArg some ?_
                                          exact absurd c17 (by simp)
                                    · skip
                                      all_goals
                                        refine congrArg some ?_
                                        exact absurd c16 (by simp)
                                  · skip
                                    all_goals
                                      refine congrArg some ?_
                                      exact absurd c15 (by simp)
                                · skip
                                  all_goals
                                    refine congrArg some ?_
                                    exact absurd c14 (by simp)
                              · skip
                                all_goals
                                  refine congrArg some ?_
                                  exact absurd c13 (by simp)
                            · skip
                              all_goals
                                refine congrArg some ?_
                                exact absurd c12 (by simp)
                          · skip
                            all_goals
                              refine congrArg some ?_
                              exact absurd c11 (by simp)
                        · skip
                          all_goals
                            refine congrArg some ?_
                            exact absurd c10 (by simp)
                      · skip
                        all_goals
                          refine congrArg some ?_
                          exact absurd c9 (by simp)
                    · skip
                      all_goals
                        refine congrArg some ?_
                        exact absurd c8 (by simp)
                  · skip
                    all_goals
                      refine congrArg some ?_
                      exact absurd c7 (by simp)
                · skip
                  all_goals
                    refine congrArg some ?_
                    exact absurd c6 (by simp)
              · skip
                all_goals
                  refine congrArg some ?_
                  exact absurd c5 (by simp)
            · skip
              all_goals
                refine congrArg some ?_
                exact absurd c4 (by simp)
          · skip
            all_goals
              refine congrArg some ?_
              exact absurd c3 (by simp)
        · skip
          all_goals
            refine congrArg some ?_
            exact absurd c2 (by simp)
      · skip
        all_goals
          refine congrArg some ?_
          exact absurd c1 (by simp)
    · skip
      all_goals
        refine congrArg some ?_
        exact absurd c0 (by simp)
def sM_tells (key : Nat) : Sm := ⟨4, key, [(false, [.int .i8]), (false, [.int .i8]), (true, [.int .u64, .int .u64, .int .i64, .int .i64]), (true, [.int .u64, .int .u64, .int .i64, .int .i64]), (false, [.int .u64])], [(false, [.bool])], false⟩
def sI_tells : Nat → List Int → Int
  | _, _ => 0
def sB_tells : Nat → List Int → Bool
  | 0, [x0, x1, x2, x3, x4, x5, x6, x7, x8, x9, x10] => (fun (op : Int) (cc : Int) (a : Rg) (b : Rg) (v : Int) => true) x0 x1 ⟨x2, x3, x4, x5⟩ ⟨x6, x7, x8, x9⟩ x10
  | _, _ => false
theorem sK_tells {sp : Spec} {key : Nat} (hI : sp.I key = sI_tells) (hB : sp.B key = sB_tells) : SmOk Try.prog sp (sM_tells key) := by
  refine SmOk.of (.inl ⟨run_enter Try.func4 (by kernel_rfl) (by kernel_rfl), fun xs vals h => ?_⟩) (.inr (.inr ⟨_, rfl⟩))
  obtain ⟨_, _, _, d1, h1, rfl⟩ := shO h
  obtain ⟨x0, rfl, rfl, gx0⟩ := ckI d1
  obtain ⟨_, _, _, d2, h2, rfl⟩ := shO h1
  obtain ⟨x1, rfl, rfl, gx1⟩ := ckI d2
  obtain ⟨_, _, _, p3, h3, rfl⟩ := shA h2
  obtain ⟨_, _, _, d3_0, p3_0, rfl⟩ := cksC p3
  obtain ⟨x2, rfl, rfl, gx2⟩ := ckI d3_0
  obtain ⟨_, _, _, d3_1, p3_1, rfl⟩ := cksC p3_0
  obtain ⟨x3, rfl, rfl, gx3⟩ := ckI d3_1
  obtain ⟨_, _, _, d3_2, p3_2, rfl⟩ := cksC p3_1
  obtain ⟨x4, rfl, rfl, gx4⟩ := ckI d3_2
  obtain ⟨_, _, _, d3_3, p3_3, rfl⟩ := cksC p3_2
  obtain ⟨x5, rfl, rfl, gx5⟩ := ckI d3_3
  obtain ⟨rfl, rfl⟩ := cksN p3_3
  obtain ⟨_, _, _, p4, h4, rfl⟩ := shA h3
  obtain ⟨_, _, _, d4_0, p4_0, rfl⟩ := cksC p4
  obtain ⟨x6, rfl, rfl, gx6⟩ := ckI d4_0
  obtain ⟨_, _, _, d4_1, p4_1, rfl⟩ := cksC p4_0
  obtain ⟨x7, rfl, rfl, gx7⟩ := ckI d4_1
  obtain ⟨_, _, _, d4_2, p4_2, rfl⟩ := cksC p4_1
  obtain ⟨x8, rfl, rfl, gx8⟩ := ckI d4_2
  obtain ⟨_, _, _, d4_3, p4_3, rfl⟩ := cksC p4_2
  obtain ⟨x9, rfl, rfl, gx9⟩ := ckI d4_3
  obtain ⟨rfl, rfl⟩ := cksN p4_3
  obtain ⟨_, _, _, d5, h5, rfl⟩ := shO h4
  obtain ⟨x10, rfl, rfl, gx10⟩ := ckI d5
  obtain ⟨rfl, rfl⟩ := shN h5
  refine ⟨_, sX_tells x0 gx0 x1 gx1 ⟨x2, x3, x4, x5⟩ ⟨gx2, gx3, gx4, gx5⟩ ⟨x6, x7, x8, x9⟩ ⟨gx6, gx7, gx8, gx9⟩ x10 gx10, fun ρ v0 he => ?_⟩
  have he' : ρ.b (v0 + 0) = sp.B key 0 [x0, x1, x2, x3, x4, x5, x6, x7, x8, x9, x10] ∧ True := he
  simp only [hI, hB] at he'
  obtain ⟨e0, -⟩ := he'
  show some (.bool (ρ.b (v0 + 0)) : Value) = _
  rw [e0]
  rfl
set_option maxRecDepth 100000 in
theorem law_BoundsTells {H : Type} {enc : TypeId × Value → H} {W : World} {r : Reach} {b0 : Nat} (a0 : Int) (w0 : (Lit.int .i8 a0).wf = true) (a1 : Int) (w1 : (Lit.int .i8 a1).wf = true) (v2 : Value) (k2 : Value.okWide Try.prog W r b0 24 v2) (d2 : DataW H) (p2 : List MemPlace) (h2 : DataW.Trod enc Try.prog W 0 (fun _ => true) true 24 v2 d2 p2) (_ : ∀ x ∈ p2, x.block < W.heap.size) (v3 : Value) (k3 : Value.okWide Try.prog W r b0 24 v3) (d3 : DataW H) (p3 : List MemPlace) (h3 : DataW.Trod enc Try.prog W 0 (fun _ => true) true 24 v3 d3 p3) (_ : ∀ x ∈ p3, x.block < W.heap.size) (a4 : Int) (w4 : (Lit.int .u64 a4).wf = true) :
    Calls Try.prog 4 #[.int .i8 a0, .int .i8 a1, v2, v3, .int .u64 a4] W fun e W' => e = .returned (.bool true) ∧ Below W.heap.size W W' := by
  obtain ⟨q2, rfl, g2⟩ := Rg.of_arg k2 h2
  obtain ⟨q3, rfl, g3⟩ := Rg.of_arg k3 h3
  exact (sX_tells a0 w0 a1 w1 q2 (Rg.ok_of g2) q3 (Rg.ok_of g3) a4 w4).1 W
end Go.Proofs.Ytcngfmhhaleoaaa
