/- The law ValueHolds, by the symbolic run. -/
import Derived.Test.YtcngfmhhaleoaaaVaC
import Derived.Test.YtcngfmhhaleoaaaVn
import Derived.Test.YtcngfmhhaleoaaaXbF
import Derived.Test.YtcngfmhhaleoaaaVaQ
import Derived.Test.YtcngfmhhaleoaaaProg
import Derived.Laws.Externs
set_option linter.unusedVariables false
set_option linter.unusedSimpArgs false
namespace Go.Proofs.Ytcngfmhhaleoaaa
open Go.RowKit Go.ChangeShapes Go.WideShapes

def tys_VaE : List (Nat × TI) := [(2, ⟨false, 1, [.int .i64 (.lit 0)], [], none, some .i64, false, false⟩),
  (22, ⟨false, 1, [.int .u64 (.lit 0)], [], none, some .u64, false, false⟩),
  (24, ⟨true, 4, [.int .u64 (.lit 0), .int .u64 (.lit 0), .int .i64 (.lit 0), .int .i64 (.lit 0)], [(0, 22), (1, 22), (2, 2), (3, 2)], none, none, false, false⟩),
  (42, ⟨false, 1, [.int .i64 (.lit 0)], [], none, some .i64, false, false⟩),
  (50, ⟨true, 2, [.int .u64 (.lit 0), .int .u64 (.lit 0)], [(0, 22), (1, 22)], none, none, false, false⟩),
  (52, ⟨true, 6, [.int .u64 (.lit 0), .int .u64 (.lit 0), .int .i64 (.lit 0), .int .i64 (.lit 0), .int .u64 (.lit 0), .int .u64 (.lit 0)], [(0, 24), (4, 50)], none, none, false, false⟩)]
set_option maxRecDepth 100000 in
theorem tysck_VaE : (tys_VaE.all fun p => ckTI Try.prog p.1 p.2) = true := by kernel_rfl
theorem tysne_VaE : (tys_VaE.all fun p => !p.2.eqok) = true := by kernel_rfl
theorem tysok_VaE : ∀ t i, (t, i) ∈ tys_VaE → TIok Try.prog t i := by
  intro t i h
  have h1 := all_at (f := fun _ i => !i.eqok) tysne_VaE h
  exact TIok_of (all_at (f := ckTI Try.prog) tysck_VaE h) (fun he => by simp [he] at h1) (fun he => by simp [he] at h1)
def sT_lhold : Tr :=
(.call 0 [.bool] (.cons (.var 2) (.cons (.var 3) (.cons (.var 4) (.cons (.var 5) (.cons (.var 6) (.cons (.var 7) (.cons (.var 14) .nil))))))) 16
 (.br (.bvar 16)
 (.call 0 [.bool] (.cons (.var 8) (.cons (.var 9) (.cons (.var 10) (.cons (.var 11) (.cons (.var 12) (.cons (.var 13) (.cons (.var 15) .nil))))))) 17
  (.br (.bvar 17)
  (.call 2 [.int .u64, .int .u64, .int .i64, .int .i64, .int .u64, .int .u64, .bool] (.cons (.var 2) (.cons (.var 3) (.cons (.var 4) (.cons (.var 5) (.cons (.var 6) (.cons (.var 7) .nil)))))) 18
   (.br (.bvar 24)
   (.call 0 [.bool] (.cons (.var 18) (.cons (.var 19) (.cons (.var 20) (.cons (.var 21) (.cons (.var 22) (.cons (.var 23) (.cons (.var 14) .nil))))))) 25
    (.br (.bvar 25)
    (.call 3 [.int .u64, .int .u64, .int .i64, .int .i64, .int .u64, .int .u64] (.cons (.var 2) (.cons (.var 3) (.cons (.var 4) (.cons (.var 5) (.cons (.var 6) (.cons (.var 7) (.cons (.var 8) (.cons (.var 9) (.cons (.var 10) (.cons (.var 11) (.cons (.var 12) (.cons (.var 13) .nil)))))))))))) 26
     (.call 4 [.int .u64, .int .u64, .int .i64, .int .i64, .int .u64, .int .u64] (.cons (.var 2) (.cons (.var 3) (.cons (.var 4) (.cons (.var 5) (.cons (.var 6) (.cons (.var 7) (.cons (.var 8) (.cons (.var 9) (.cons (.var 10) (.cons (.var 11) (.cons (.var 12) (.cons (.var 13) .nil)))))))))))) 32
     (.call 0 [.bool] (.cons (.var 26) (.cons (.var 27) (.cons (.var 28) (.cons (.var 29) (.cons (.var 30) (.cons (.var 31) (.cons (.var 14) .nil))))))) 38
     (.br (.bvar 38)
     (.call 0 [.bool] (.cons (.var 26) (.cons (.var 27) (.cons (.var 28) (.cons (.var 29) (.cons (.var 30) (.cons (.var 31) (.cons (.var 15) .nil))))))) 39
      (.br (.bvar 39)
      (.call 0 [.bool] (.cons (.var 32) (.cons (.var 33) (.cons (.var 34) (.cons (.var 35) (.cons (.var 36) (.cons (.var 37) (.cons (.var 14) .nil))))))) 40
       (.br (.bvar 40)
       (.call 0 [.bool] (.cons (.var 32) (.cons (.var 33) (.cons (.var 34) (.cons (.var 35) (.cons (.var 36) (.cons (.var 37) (.cons (.var 15) .nil))))))) 41
        (.br (.bvar 41)
        (.call 5 [.int .u64, .int .i64] (.cons (.var 0) (.cons (.var 1) (.cons (.var 14) (.cons (.var 15) .nil)))) 42
         (.br (.eq (.var 43) (.lit 0))
         (.call 6 [.int .u64, .int .u64, .int .i64, .int .i64, .int .u64, .int .u64] (.cons (.var 0) (.cons (.var 1) (.cons (.var 2) (.cons (.var 3) (.cons (.var 4) (.cons (.var 5) (.cons (.var 6) (.cons (.var 7) (.cons (.var 8) (.cons (.var 9) (.cons (.var 10) (.cons (.var 11) (.cons (.var 12) (.cons (.var 13) .nil)))))))))))))) 44
          (.call 0 [.bool] (.cons (.var 44) (.cons (.var 45) (.cons (.var 46) (.cons (.var 47) (.cons (.var 48) (.cons (.var 49) (.cons (.var 42) .nil))))))) 50
          (.br (.bvar 50)
          (.call 1 [.bool] .nil 51
           (.leaf (.one (.bool (.bvar 51)))))
          (.leaf (.one (.bool (.tt false)))))))
         (.call 1 [.bool] .nil 44
          (.leaf (.one (.bool (.bvar 44)))))))
        (.leaf (.one (.bool (.tt false))))))
       (.leaf (.one (.bool (.tt false))))))
      (.leaf (.one (.bool (.tt false))))))
     (.leaf (.one (.bool (.tt false))))))))
    (.leaf (.one (.bool (.tt false))))))
   (.leaf (.one (.bool (.tt false))))))
  (.call 1 [.bool] .nil 18
   (.leaf (.one (.bool (.bvar 18)))))))
 (.call 1 [.bool] .nil 17
  (.leaf (.one (.bool (.bvar 17)))))))
def sP_lhold : Spec := ⟨fun k => match k with | 0 => sI_vhas | 1 => sI_vwakes | 2 => sI_vnar | 3 => sI_vjoin | 4 => sI_vwid | 5 => sI_bits | 6 => sI_vdo | _ => fun _ _ => 0, fun k => match k with | 0 => sB_vhas | 1 => sB_vwakes | 2 => sB_vnar | 3 => sB_vjoin | 4 => sB_vwid | 5 => sB_bits | 6 => sB_vdo | _ => fun _ _ => false⟩
set_option maxRecDepth 100000 in
theorem sR_lhold : funK ⟨tys_VaE, [sM_vhas 0, sM_vwakes 1, sM_vnar 2, sM_vjoin 3, sM_vwid 4, sM_bits 5, sM_vdo 6]⟩ 200 Try.f8 [.one (.int .i8 (.var 0)), .one (.int .i8 (.var 1)), .agg [.int .u64 (.var 2), .int .u64 (.var 3), .int .i64 (.var 4), .int .i64 (.var 5), .int .u64 (.var 6), .int .u64 (.var 7)], .agg [.int .u64 (.var 8), .int .u64 (.var 9), .int .i64 (.var 10), .int .i64 (.var 11), .int .u64 (.var 12), .int .u64 (.var 13)], .one (.int .u64 (.var 14)), .one (.int .u64 (.var 15))] ⟨[], [], [some .i8, some .i8, some .u64, some .u64, some .i64, some .i64, some .u64, some .u64, some .u64, some .u64, some .i64, some .i64, some .u64, some .u64, some .u64, some .u64]⟩ = sT_lhold := by kernel_rfl
set_option maxRecDepth 100000 in
set_option maxHeartbeats 8000000 in
theorem sX_lhold (op : Int) (hop : inK .i8 op = true) (l : Int) (hl : inK .i8 l = true) (a : Sc) (ha : Sc.ok a) (b : Sc) (hb : Sc.ok b) (v : Int) (hv : inK .u64 v = true) (x : Int) (hx : inK .u64 x = true) : (∀ w, Calls Try.prog 8 #[.int .i8 op, .int .i8 l, .agg #[.int .u64 a.ul, .int .u64 a.uh, .int .i64 a.sl, .int .i64 a.sh, .int .u64 a.v, .int .u64 a.m], .agg #[.int .u64 b.ul, .int .u64 b.uh, .int .i64 b.sl, .int .i64 b.sh, .int .u64 b.v, .int .u64 b.m], .int .u64 v, .int .u64 x] w fun e w' => e = .returned (.bool true) ∧ Ext w w') ∧ valIn (.bool true) = true := by
  refine fun_calls (cx := ⟨tys_VaE, [sM_vhas 0, sM_vwakes 1, sM_vnar 2, sM_vjoin 3, sM_vwid 4, sM_bits 5, sM_vdo 6]⟩) (sp := sP_lhold) (t := sT_lhold) (by kernel_rfl) tysok_VaE (List.forall_mem_cons.2 ⟨sK_vhas rfl rfl, List.forall_mem_cons.2 ⟨sK_vwakes rfl rfl, List.forall_mem_cons.2 ⟨sK_vnar rfl rfl, List.forall_mem_cons.2 ⟨sK_vjoin rfl rfl, List.forall_mem_cons.2 ⟨sK_vwid rfl rfl, List.forall_mem_cons.2 ⟨sK_bits rfl rfl, List.forall_mem_cons.2 ⟨sK_vdo rfl rfl, fun _ h => (by cases h)⟩⟩⟩⟩⟩⟩⟩) (keys_of (by kernel_rfl)) Try.func8 ⟨fun n => ([op, l, a.ul, a.uh, a.sl, a.sh, a.v, a.m, b.ul, b.uh, b.sl, b.sh, b.v, b.m, v, x] : List Int).getD n 0, fun n => ([false, false, false, false, false, false, false, false, false, false, false, false, false, false, false, false] : List Bool).getD n false⟩ sR_lhold (by kernel_rfl) ?_ rfl (by intro p hp; cases hp) ?_ ?_
  · intro n k hk
    have hlt : n < 16 := by
      rcases Nat.lt_or_ge n 16 with h | h
      · exact h
      · rw [List.getElem?_eq_none h] at hk; cases hk
    rcases (show n = 0 ∨ n = 1 ∨ n = 2 ∨ n = 3 ∨ n = 4 ∨ n = 5 ∨ n = 6 ∨ n = 7 ∨ n = 8 ∨ n = 9 ∨ n = 10 ∨ n = 11 ∨ n = 12 ∨ n = 13 ∨ n = 14 ∨ n = 15 by omega) with rfl | rfl | rfl | rfl | rfl | rfl | rfl | rfl | rfl | rfl | rfl | rfl | rfl | rfl | rfl | rfl
    · cases hk; exact hop
    · cases hk; exact hl
    · cases hk; exact ha.1
    · cases hk; exact ha.2.1
    · cases hk; exact ha.2.2.1
    · cases hk; exact ha.2.2.2.1
    · cases hk; exact ha.2.2.2.2.1
    · cases hk; exact ha.2.2.2.2.2
    · cases hk; exact hb.1
    · cases hk; exact hb.2.1
    · cases hk; exact hb.2.2.1
    · cases hk; exact hb.2.2.2.1
    · cases hk; exact hb.2.2.2.2.1
    · cases hk; exact hb.2.2.2.2.2
    · cases hk; exact hv
    · cases hk; exact hx
  · intro ρ hag
    have g0 : ρ.i 0 = op := (hag 0 (by decide)).1.symm
    have g1 : ρ.i 1 = l := (hag 1 (by decide)).1.symm
    have g2 : ρ.i 2 = a.ul := (hag 2 (by decide)).1.symm
    have g3 : ρ.i 3 = a.uh := (hag 3 (by decide)).1.symm
    have g4 : ρ.i 4 = a.sl := (hag 4 (by decide)).1.symm
    have g5 : ρ.i 5 = a.sh := (hag 5 (by decide)).1.symm
    have g6 : ρ.i 6 = a.v := (hag 6 (by decide)).1.symm
    have g7 : ρ.i 7 = a.m := (hag 7 (by decide)).1.symm
    have g8 : ρ.i 8 = b.ul := (hag 8 (by decide)).1.symm
    have g9 : ρ.i 9 = b.uh := (hag 9 (by decide)).1.symm
    have g10 : ρ.i 10 = b.sl := (hag 10 (by decide)).1.symm
    have g11 : ρ.i 11 = b.sh := (hag 11 (by decide)).1.symm
    have g12 : ρ.i 12 = b.v := (hag 12 (by decide)).1.symm
    have g13 : ρ.i 13 = b.m := (hag 13 (by decide)).1.symm
    have g14 : ρ.i 14 = v := (hag 14 (by decide)).1.symm
    have g15 : ρ.i 15 = x := (hag 15 (by decide)).1.symm
    show some ([.int .i8 (ρ.i 0), .int .i8 (ρ.i 1), .agg #[.int .u64 (ρ.i 2), .int .u64 (ρ.i 3), .int .i64 (ρ.i 4), .int .i64 (ρ.i 5), .int .u64 (ρ.i 6), .int .u64 (ρ.i 7)], .agg #[.int .u64 (ρ.i 8), .int .u64 (ρ.i 9), .int .i64 (ρ.i 10), .int .i64 (ρ.i 11), .int .u64 (ρ.i 12), .int .u64 (ρ.i 13)], .int .u64 (ρ.i 14), .int .u64 (ρ.i 15)] : List Value) = _
    rw [g0, g1, g2, g3, g4, g5, g6, g7, g8, g9, g10, g11, g12, g13, g14, g15]
  · intro ρ hag
    have g0 : ρ.i 0 = op := (hag 0 (by decide)).1.symm
    have g1 : ρ.i 1 = l := (hag 1 (by decide)).1.symm
    have g2 : ρ.i 2 = a.ul := (hag 2 (by decide)).1.symm
    have g3 : ρ.i 3 = a.uh := (hag 3 (by decide)).1.symm
    have g4 : ρ.i 4 = a.sl := (hag 4 (by decide)).1.symm
    have g5 : ρ.i 5 = a.sh := (hag 5 (by decide)).1.symm
    have g6 : ρ.i 6 = a.v := (hag 6 (by decide)).1.symm
    have g7 : ρ.i 7 = a.m := (hag 7 (by decide)).1.symm
    have g8 : ρ.i 8 = b.ul := (hag 8 (by decide)).1.symm
    have g9 : ρ.i 9 = b.uh := (hag 9 (by decide)).1.symm
    have g10 : ρ.i 10 = b.sl := (hag 10 (by decide)).1.symm
    have g11 : ρ.i 11 = b.sh := (hag 11 (by decide)).1.symm
    have g12 : ρ.i 12 = b.v := (hag 12 (by decide)).1.symm
    have g13 : ρ.i 13 = b.m := (hag 13 (by decide)).1.symm
    have g14 : ρ.i 14 = v := (hag 14 (by decide)).1.symm
    have g15 : ρ.i 15 = x := (hag 15 (by decide)).1.symm
    simp only [sT_lhold, Tr.asks, eqs, E.I, E.B, E.L, V.den, C.den, denL, den0, den0L, Option.map_some, Nat.add_zero, Nat.reduceAdd, and_true, Sc.eta, Sc.eta_r, Sc.eta_k, Sc.eta_2, g0, g1, g2, g3, g4, g5, g6, g7, g8, g9, g10, g11, g12, g13, g14, g15]
    simp only [sP_lhold, b01, Kn.eta, Pi.eta, Pu.eta, Rg.eta, Sc.eta, Sc.eta_r, Sc.eta_k, Sc.eta_2, sI_vhas, sB_vhas, sI_vwakes, sB_vwakes, sI_vnar, sB_vnar, sI_vjoin, sB_vjoin, sI_vwid, sB_vwid, sI_bits, sB_bits, sI_vdo, sB_vdo]
    have wa := Sc.wf_of ha
    have wb := Sc.wf_of hb
    have gv := inK_u64 hv
    have gx := inK_u64 hx
    have f1 : vhas a v = true → vnok a = true := fun h => (vnar_has wa gv h).1
    have f2 : vhas a v = true → vhas (vnar a) v = true := fun h => (vnar_has wa gv h).2
    have f3 : vhas a v = true → vhas b x = true → vhas (vjoin a b) v = true := fun h1 h2 => vjoin_has wa wb gv (vhas_may h1) (vhas_may h2) (.inl h1)
    have f4 : vhas a v = true → vhas b x = true → vhas (vjoin a b) x = true := fun h1 h2 => vjoin_has wa wb gx (vhas_may h1) (vhas_may h2) (.inr h2)
    have f5 : vhas a v = true → vhas b x = true → vhas (vwid a b) v = true := fun h1 h2 => vwid_has wa wb gv (vhas_may h1) (vhas_may h2) (.inl h1)
    have f6 : vhas a v = true → vhas b x = true → vhas (vwid a b) x = true := fun h1 h2 => vwid_has wa wb gx (vhas_may h1) (vhas_may h2) (.inr h2)
    have f7 : vhas a v = true → vhas b x = true → okop op l = true → vhas (vdo op l a b) (zdo op l v x) = true := fun h1 h2 h3 => vdo_has wa wb gv gx h1 h2 h3
    intro e16
    (try simp only [e16, Kn.eta, Pi.eta, Pu.eta, Rg.eta, Sc.eta, Sc.eta_r, Sc.eta_k, Sc.eta_2])
    (try clear e16)
    refine ⟨fun c0 => ?_, fun c0 => ?_⟩
    · skip
      intro e17
      (try simp only [e17, Kn.eta, Pi.eta, Pu.eta, Rg.eta, Sc.eta, Sc.eta_r, Sc.eta_k, Sc.eta_2])
      (try clear e17)
      refine ⟨fun c1 => ?_, fun c1 => ?_⟩
      · skip
        rintro ⟨e18, e19, e20, e21, e22, e23, e24⟩
        (try simp only [e18, e19, e20, e21, e22, e23, e24, Kn.eta, Pi.eta, Pu.eta, Rg.eta, Sc.eta, Sc.eta_r, Sc.eta_k, Sc.eta_2])
        (try clear e18 e19 e20 e21 e22 e23 e24)
        refine ⟨fun c2 => ?_, fun c2 => ?_⟩
        · skip
          intro e25
          (try simp only [e25, Kn.eta, Pi.eta, Pu.eta, Rg.eta, Sc.eta, Sc.eta_r, Sc.eta_k, Sc.eta_2])
          (try clear e25)
          refine ⟨fun c3 => ?_, fun c3 => ?_⟩
          · skip
            rintro ⟨e26, e27, e28, e29, e30, e31⟩
            (try simp only [e26, e27, e28, e29, e30, e31, Kn.eta, Pi.eta, Pu.eta, Rg.eta, Sc.eta, Sc.eta_r, Sc.eta_k, Sc.eta_2])
            (try clear e26 e27 e28 e29 e30 e31)
            rintro ⟨e32, e33, e34, e35, e36, e37⟩
            (try simp only [e32, e33, e34, e35, e36, e37, Kn.eta, Pi.eta, Pu.eta, Rg.eta, Sc.eta, Sc.eta_r, Sc.eta_k, Sc.eta_2])
            (try clear e32 e33 e34 e35 e36 e37)
            intro e38
            (try simp only [e38, Kn.eta, Pi.eta, Pu.eta, Rg.eta, Sc.eta, Sc.eta_r, Sc.eta_k, Sc.eta_2])
            (try clear e38)
            refine ⟨fun c4 => ?_, fun c4 => ?_⟩
            · skip
              intro e39
              (try simp only [e39, Kn.eta, Pi.eta, Pu.eta, Rg.eta, Sc.eta, Sc.eta_r, Sc.eta_k, Sc.eta_2])
              (try clear e39)
              refine ⟨fun c5 => ?_, fun c5 => ?_⟩
              · skip
                intro e40
                (try simp only [e40, Kn.eta, Pi.eta, Pu.eta, Rg.eta, Sc.eta, Sc.eta_r, Sc.eta_k, Sc.eta_2])
                (try clear e40)
                refine ⟨fun c6 => ?_, fun c6 => ?_⟩
                · skip
                  intro e41
                  (try simp only [e41, Kn.eta, Pi.eta, Pu.eta, Rg.eta, Sc.eta, Sc.eta_r, Sc.eta_k, Sc.eta_2])
                  (try clear e41)
                  refine ⟨fun c7 => ?_, fun c7 => ?_⟩
                  · skip
                    rintro ⟨e42, e43⟩
                    (try simp only [e42, e43, Kn.eta, Pi.eta, Pu.eta, Rg.eta, Sc.eta, Sc.eta_r, Sc.eta_k, Sc.eta_2])
                    (try clear e42 e43)
                    refine ⟨fun c8 => ?_, fun c8 => ?_⟩
                    · skip
                      rintro ⟨e44, e45, e46, e47, e48, e49⟩
                      (try simp only [e44, e45, e46, e47, e48, e49, Kn.eta, Pi.eta, Pu.eta, Rg.eta, Sc.eta, Sc.eta_r, Sc.eta_k, Sc.eta_2])
                      (try clear e44 e45 e46 e47 e48 e49)
                      intro e50
                      (try simp only [e50, Kn.eta, Pi.eta, Pu.eta, Rg.eta, Sc.eta, Sc.eta_r, Sc.eta_k, Sc.eta_2])
                      (try clear e50)
                      refine ⟨fun c9 => ?_, fun c9 => ?_⟩
                      · skip
                        intro e51
                        (try simp only [e51, Kn.eta, Pi.eta, Pu.eta, Rg.eta, Sc.eta, Sc.eta_r, Sc.eta_k, Sc.eta_2])
                        (try clear e51)
                        all_goals
                          refine congrArg some ?_
                          (cases hk : okop op l <;> simp_all)
                      · skip
                        all_goals
                          refine congrArg some ?_
                          (cases hk : okop op l <;> simp_all)
                    · skip
                      intro e44
                      (try simp only [e44, Kn.eta, Pi.eta, Pu.eta, Rg.eta, Sc.eta, Sc.eta_r, Sc.eta_k, Sc.eta_2])
                      (try clear e44)
                      all_goals
                        refine congrArg some ?_
                        (cases hk : okop op l <;> simp_all)
                  · skip
                    all_goals
                      refine congrArg some ?_
                      (cases hk : okop op l <;> simp_all)
                · skip
                  all_goals
                    refine congrArg some ?_
                    (cases hk : okop op l <;> simp_all)
              · skip
                all_goals
                  refine congrArg some ?_
                  (cases hk : okop op l <;> simp_all)
            · skip
              all_goals
                refine congrArg some ?_
                (cases hk : okop op l <;> simp_all)
          · skip
            all_goals
              refine congrArg some ?_
              (cases hk : okop op l <;> simp_all)
        · skip
          all_goals
            refine congrArg some ?_
            (cases hk : okop op l <;> simp_all)
      · skip
        intro e18
        (try simp only [e18, Kn.eta, Pi.eta, Pu.eta, Rg.eta, Sc.eta, Sc.eta_r, Sc.eta_k, Sc.eta_2])
        (try clear e18)
        all_goals
          refine congrArg some ?_
          (cases hk : okop op l <;> simp_all)
    · skip
      intro e17
      (try simp only [e17, Kn.eta, Pi.eta, Pu.eta, Rg.eta, Sc.eta, Sc.eta_r, Sc.eta_k, Sc.eta_2])
      (try clear e17)
      all_goals
        refine congrArg some ?_
        (cases hk : okop op l <;> simp_all)
def sM_lhold (key : Nat) : Sm := ⟨8, key, [(false, [.int .i8]), (false, [.int .i8]), (true, [.int .u64, .int .u64, .int .i64, .int .i64, .int .u64, .int .u64]), (true, [.int .u64, .int .u64, .int .i64, .int .i64, .int .u64, .int .u64]), (false, [.int .u64]), (false, [.int .u64])], [(false, [.bool])], false⟩
def sI_lhold : Nat → List Int → Int
  | _, _ => 0
def sB_lhold : Nat → List Int → Bool
  | 0, [x0, x1, x2, x3, x4, x5, x6, x7, x8, x9, x10, x11, x12, x13, x14, x15] => (fun (op : Int) (l : Int) (a : Sc) (b : Sc) (v : Int) (x : Int) => true) x0 x1 ⟨x2, x3, x4, x5, x6, x7⟩ ⟨x8, x9, x10, x11, x12, x13⟩ x14 x15
  | _, _ => false
theorem sK_lhold {sp : Spec} {key : Nat} (hI : sp.I key = sI_lhold) (hB : sp.B key = sB_lhold) : SmOk Try.prog sp (sM_lhold key) := by
  refine SmOk.of (.inl ⟨run_enter Try.func8 (by kernel_rfl) (by kernel_rfl), fun xs vals h => ?_⟩) (.inr (.inr ⟨_, rfl⟩))
  obtain ⟨_, _, _, d1, h1, rfl⟩ := shO h
  obtain ⟨x0, rfl, rfl, gx0⟩ := ckI d1
  obtain ⟨_, _, _, d2, h2, rfl⟩ := shO h1
  obtain ⟨x1, rfl, rfl, gx1⟩ := ckI d2
  obtain ⟨_, _, _, p3, h3, rfl⟩ := shA h2
  obtain ⟨_, _, _, d3_0, p3_0, rfl⟩ := cksC p3
  obtain ⟨x2, rfl, rfl, gx2⟩ := ckI d3_0
  obtain ⟨_, _, _, d3_1, p3_1, rfl⟩ := cksC p3_0
  obtain ⟨x3, rfl, rfl, gx3⟩ := ckI d3_1
  obtain ⟨_, _, _, d3_2, p3_2, rfl⟩ := cksC p3_1
  obtain ⟨x4, rfl, rfl, gx4⟩ := ckI d3_2
  obtain ⟨_, _, _, d3_3, p3_3, rfl⟩ := cksC p3_2
  obtain ⟨x5, rfl, rfl, gx5⟩ := ckI d3_3
  obtain ⟨_, _, _, d3_4, p3_4, rfl⟩ := cksC p3_3
  obtain ⟨x6, rfl, rfl, gx6⟩ := ckI d3_4
  obtain ⟨_, _, _, d3_5, p3_5, rfl⟩ := cksC p3_4
  obtain ⟨x7, rfl, rfl, gx7⟩ := ckI d3_5
  obtain ⟨rfl, rfl⟩ := cksN p3_5
  obtain ⟨_, _, _, p4, h4, rfl⟩ := shA h3
  obtain ⟨_, _, _, d4_0, p4_0, rfl⟩ := cksC p4
  obtain ⟨x8, rfl, rfl, gx8⟩ := ckI d4_0
  obtain ⟨_, _, _, d4_1, p4_1, rfl⟩ := cksC p4_0
  obtain ⟨x9, rfl, rfl, gx9⟩ := ckI d4_1
  obtain ⟨_, _, _, d4_2, p4_2, rfl⟩ := cksC p4_1
  obtain ⟨x10, rfl, rfl, gx10⟩ := ckI d4_2
  obtain ⟨_, _, _, d4_3, p4_3, rfl⟩ := cksC p4_2
  obtain ⟨x11, rfl, rfl, gx11⟩ := ckI d4_3
  obtain ⟨_, _, _, d4_4, p4_4, rfl⟩ := cksC p4_3
  obtain ⟨x12, rfl, rfl, gx12⟩ := ckI d4_4
  obtain ⟨_, _, _, d4_5, p4_5, rfl⟩ := cksC p4_4
  obtain ⟨x13, rfl, rfl, gx13⟩ := ckI d4_5
  obtain ⟨rfl, rfl⟩ := cksN p4_5
  obtain ⟨_, _, _, d5, h5, rfl⟩ := shO h4
  obtain ⟨x14, rfl, rfl, gx14⟩ := ckI d5
  obtain ⟨_, _, _, d6, h6, rfl⟩ := shO h5
  obtain ⟨x15, rfl, rfl, gx15⟩ := ckI d6
  obtain ⟨rfl, rfl⟩ := shN h6
  refine ⟨_, sX_lhold x0 gx0 x1 gx1 ⟨x2, x3, x4, x5, x6, x7⟩ ⟨gx2, gx3, gx4, gx5, gx6, gx7⟩ ⟨x8, x9, x10, x11, x12, x13⟩ ⟨gx8, gx9, gx10, gx11, gx12, gx13⟩ x14 gx14 x15 gx15, fun ρ v0 he => ?_⟩
  have he' : ρ.b (v0 + 0) = sp.B key 0 [x0, x1, x2, x3, x4, x5, x6, x7, x8, x9, x10, x11, x12, x13, x14, x15] ∧ True := he
  simp only [hI, hB] at he'
  obtain ⟨e0, -⟩ := he'
  show some (.bool (ρ.b (v0 + 0)) : Value) = _
  rw [e0]
  rfl
set_option maxRecDepth 100000 in
theorem law_ValueHolds {H : Type} {enc : TypeId × Value → H} {W : World} {r : Reach} {b0 : Nat} (a0 : Int) (w0 : (Lit.int .i8 a0).wf = true) (a1 : Int) (w1 : (Lit.int .i8 a1).wf = true) (v2 : Value) (k2 : Value.okWide Try.prog W r b0 52 v2) (d2 : DataW H) (p2 : List MemPlace) (h2 : DataW.Trod enc Try.prog W 0 (fun _ => true) true 52 v2 d2 p2) (_ : ∀ x ∈ p2, x.block < W.heap.size) (v3 : Value) (k3 : Value.okWide Try.prog W r b0 52 v3) (d3 : DataW H) (p3 : List MemPlace) (h3 : DataW.Trod enc Try.prog W 0 (fun _ => true) true 52 v3 d3 p3) (_ : ∀ x ∈ p3, x.block < W.heap.size) (a4 : Int) (w4 : (Lit.int .u64 a4).wf = true) (a5 : Int) (w5 : (Lit.int .u64 a5).wf = true) :
    Calls Try.prog 8 #[.int .i8 a0, .int .i8 a1, v2, v3, .int .u64 a4, .int .u64 a5] W fun e W' => e = .returned (.bool true) ∧ Below W.heap.size W W' := by
  obtain ⟨q2, rfl, g2⟩ := Sc.of_arg k2 h2
  obtain ⟨q3, rfl, g3⟩ := Sc.of_arg k3 h3
  exact (sX_lhold a0 w0 a1 w1 q2 (Sc.ok_of g2) q3 (Sc.ok_of g3) a4 w4 a5 w5).1 W
end Go.Proofs.Ytcngfmhhaleoaaa
