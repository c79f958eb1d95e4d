/- What the laws of layer 07 wake; the law BoundsHold, by the symbolic run. -/
import Derived.Test.YtcngfmhhaleoaaaXbY
import Derived.Test.YtcngfmhhaleoaaaBdQ
import Derived.Test.YtcngfmhhaleoaaaProg
import Derived.Laws.Externs
set_option linter.unusedVariables false
set_option linter.unusedSimpArgs false
namespace Go.Proofs.Ytcngfmhhaleoaaa
open Go.RowKit Go.ChangeShapes Go.WideShapes

def tys_XbF : List (Nat × TI) := [(2, ⟨false, 1, [.int .i64 (.lit 0)], [], none, some .i64, false, false⟩),
  (4, ⟨false, 1, [.bool (.tt false)], [], none, none, false, true⟩),
  (22, ⟨false, 1, [.int .u64 (.lit 0)], [], none, some .u64, false, false⟩),
  (24, ⟨true, 4, [.int .u64 (.lit 0), .int .u64 (.lit 0), .int .i64 (.lit 0), .int .i64 (.lit 0)], [(0, 22), (1, 22), (2, 2), (3, 2)], none, none, true, false⟩),
  (42, ⟨false, 1, [.int .i64 (.lit 0)], [], none, some .i64, false, false⟩)]
set_option maxRecDepth 100000 in
theorem tysck_XbF : (tys_XbF.all fun p => ckTI Try.prog p.1 p.2) = true := by kernel_rfl
theorem tyseq_XbF : (tys_XbF.all fun p => !p.2.eqok || ((Nat.beq p.1 24 && kindsC p.2.zero z_Rg))) = true := by kernel_rfl
theorem tysok_XbF : ∀ t i, (t, i) ∈ tys_XbF → TIok Try.prog t i := by
  intro t i h
  have h1 := List.all_eq_true.1 tyseq_XbF (t, i) h
  have h2 : i.eqok = true → (t = 24 ∧ kindsC i.zero z_Rg = true) := by
    intro he
    simp only [he, Bool.not_true, Bool.false_or, Bool.or_eq_true, Bool.and_eq_true] at h1
    exact ⟨Nat.eq_of_beq_eq_true h1.1, h1.2⟩
  refine TIok_of (all_at (f := ckTI Try.prog) tysck_XbF h) (fun he => ?_) (fun he => ?_)
  · rcases h2 he with ⟨rfl, hs⟩
    · exact fun vs us hv hu => eq_Rg vs us (kindsV_of hs hv) (kindsV_of hs hu)
  · rcases h2 he with ⟨rfl, hs⟩
    · exact grd_Rg
def sT_small : Tr :=
(.leaf (.agg [.int .u64 (.var 0), .int .u64 (.var 1), .int .i64 (.conv .i64 (.var 0)), .int .i64 (.conv .i64 (.var 1))]))
def sP_small : Spec := ⟨fun k => match k with | _ => fun _ _ => 0, fun k => match k with | _ => fun _ _ => false⟩
set_option maxRecDepth 100000 in
theorem sR_small : funK ⟨tys_XbF, []⟩ 200 Try.f57 [.one (.int .u64 (.var 0)), .one (.int .u64 (.var 1))] ⟨[], [], [some .u64, some .u64]⟩ = sT_small := by kernel_rfl
set_option maxRecDepth 100000 in
set_option maxHeartbeats 8000000 in
theorem sX_small (x : Int) (hx : inK .u64 x = true) (y : Int) (hy : inK .u64 y = true) : (∀ w, Calls Try.prog 57 #[.int .u64 x, .int .u64 y] w fun e w' => e = .returned (.agg #[.int .u64 ((⟨x, y, IntKind.i64.wrap x, IntKind.i64.wrap y⟩ : Rg)).ul, .int .u64 ((⟨x, y, IntKind.i64.wrap x, IntKind.i64.wrap y⟩ : Rg)).uh, .int .i64 ((⟨x, y, IntKind.i64.wrap x, IntKind.i64.wrap y⟩ : Rg)).sl, .int .i64 ((⟨x, y, IntKind.i64.wrap x, IntKind.i64.wrap y⟩ : Rg)).sh]) ∧ Ext w w') ∧ valIn (.agg #[.int .u64 ((⟨x, y, IntKind.i64.wrap x, IntKind.i64.wrap y⟩ : Rg)).ul, .int .u64 ((⟨x, y, IntKind.i64.wrap x, IntKind.i64.wrap y⟩ : Rg)).uh, .int .i64 ((⟨x, y, IntKind.i64.wrap x, IntKind.i64.wrap y⟩ : Rg)).sl, .int .i64 ((⟨x, y, IntKind.i64.wrap x, IntKind.i64.wrap y⟩ : Rg)).sh]) = true := by
  refine fun_calls (cx := ⟨tys_XbF, []⟩) (sp := sP_small) (t := sT_small) (by kernel_rfl) tysok_XbF (fun _ h => (by cases h)) (keys_of (by kernel_rfl)) Try.func57 ⟨fun n => ([x, y] : List Int).getD n 0, fun n => ([false, false] : List Bool).getD n false⟩ sR_small (by kernel_rfl) ?_ rfl (by intro p hp; cases hp) ?_ ?_
  · intro n k hk
    have hlt : n < 2 := by
      rcases Nat.lt_or_ge n 2 with h | h
      · exact h
      · rw [List.getElem?_eq_none h] at hk; cases hk
    rcases (show n = 0 ∨ n = 1 by omega) with rfl | rfl
    · cases hk; exact hx
    · cases hk; exact hy
  · intro ρ hag
    have g0 : ρ.i 0 = x := (hag 0 (by decide)).1.symm
    have g1 : ρ.i 1 = y := (hag 1 (by decide)).1.symm
    show some ([.int .u64 (ρ.i 0), .int .u64 (ρ.i 1)] : List Value) = _
    rw [g0, g1]
  · intro ρ hag
    have g0 : ρ.i 0 = x := (hag 0 (by decide)).1.symm
    have g1 : ρ.i 1 = y := (hag 1 (by decide)).1.symm
    simp only [sT_small, Tr.asks, eqs, E.I, E.B, E.L, V.den, C.den, denL, den0, den0L, Option.map_some, Nat.add_zero, Nat.reduceAdd, and_true, g0, g1]
    all_goals
      refine congrArg some ?_
      rfl
def sM_small (key : Nat) : Sm := ⟨57, key, [(false, [.int .u64]), (false, [.int .u64])], [(true, [.int .u64, .int .u64, .int .i64, .int .i64])], false⟩
def sI_small : Nat → List Int → Int
  | 0, [x0, x1] => (fun (x : Int) (y : Int) => ((⟨x, y, IntKind.i64.wrap x, IntKind.i64.wrap y⟩ : Rg)).ul) x0 x1
  | 1, [x0, x1] => (fun (x : Int) (y : Int) => ((⟨x, y, IntKind.i64.wrap x, IntKind.i64.wrap y⟩ : Rg)).uh) x0 x1
  | 2, [x0, x1] => (fun (x : Int) (y : Int) => ((⟨x, y, IntKind.i64.wrap x, IntKind.i64.wrap y⟩ : Rg)).sl) x0 x1
  | 3, [x0, x1] => (fun (x : Int) (y : Int) => ((⟨x, y, IntKind.i64.wrap x, IntKind.i64.wrap y⟩ : Rg)).sh) x0 x1
  | _, _ => 0
def sB_small : Nat → List Int → Bool
  | _, _ => false
theorem sK_small {sp : Spec} {key : Nat} (hI : sp.I key = sI_small) (hB : sp.B key = sB_small) : SmOk Try.prog sp (sM_small key) := by
  refine SmOk.of (.inl ⟨run_enter Try.func57 (by kernel_rfl) (by kernel_rfl), fun xs vals h => ?_⟩) (.inr (.inl ⟨_, rfl⟩))
  obtain ⟨_, _, _, d1, h1, rfl⟩ := shO h
  obtain ⟨x0, rfl, rfl, gx0⟩ := ckI d1
  obtain ⟨_, _, _, d2, h2, rfl⟩ := shO h1
  obtain ⟨x1, rfl, rfl, gx1⟩ := ckI d2
  obtain ⟨rfl, rfl⟩ := shN h2
  refine ⟨_, sX_small x0 gx0 x1 gx1, fun ρ v0 he => ?_⟩
  have he' : ρ.i (v0 + 0) = sp.I key 0 [x0, x1] ∧ ρ.i (v0 + 1) = sp.I key 1 [x0, x1] ∧ ρ.i (v0 + 2) = sp.I key 2 [x0, x1] ∧ ρ.i (v0 + 3) = sp.I key 3 [x0, x1] ∧ True := he
  simp only [hI, hB] at he'
  obtain ⟨e0, e1, e2, e3, -⟩ := he'
  show some (.agg #[.int .u64 (ρ.i (v0 + 0)), .int .u64 (ρ.i (v0 + 1)), .int .i64 (ρ.i (v0 + 2)), .int .i64 (ρ.i (v0 + 3))] : Value) = _
  rw [e0, e1, e2, e3]
  rfl
def sT_wakes : Tr :=
(.call 0 [.int .u64, .int .u64, .int .i64, .int .i64] (.cons (.lit 0) (.cons (.lit 9) .nil)) 0
 (.call 1 [.int .u64, .int .u64, .int .i64, .int .i64] (.cons (.lit 4) .nil) 4
 (.call 2 [.int .u64, .int .u64, .int .i64, .int .i64, .bool] (.cons (.lit 4) (.cons (.var 0) (.cons (.var 1) (.cons (.var 2) (.cons (.var 3) (.cons (.var 4) (.cons (.var 5) (.cons (.var 6) (.cons (.var 7) .nil))))))))) 8
 (.call 0 [.int .u64, .int .u64, .int .i64, .int .i64] (.cons (.lit 1) (.cons (.lit 5) .nil)) 13
 (.call 0 [.int .u64, .int .u64, .int .i64, .int .i64] (.cons (.lit 2) (.cons (.lit 3) .nil)) 17
 (.call 3 [.int .u64, .int .u64, .int .i64, .int .i64] (.cons (.lit 0) (.cons (.var 13) (.cons (.var 14) (.cons (.var 15) (.cons (.var 16) (.cons (.var 17) (.cons (.var 18) (.cons (.var 19) (.cons (.var 20) .nil))))))))) 21
 (.call 0 [.int .u64, .int .u64, .int .i64, .int .i64] (.cons (.lit 3) (.cons (.lit 8) .nil)) 25
 (.br (.eq (.var 21) (.var 25))
 (.br (.eq (.var 22) (.var 26))
  (.br (.eq (.var 23) (.var 27))
   (.br (.eq (.var 24) (.var 28))
    (.call 0 [.int .u64, .int .u64, .int .i64, .int .i64] (.cons (.lit 0) (.cons (.lit 3) .nil)) 29
     (.br (.eq (.var 8) (.var 29))
     (.br (.eq (.var 9) (.var 30))
      (.br (.eq (.var 10) (.var 31))
       (.br (.eq (.var 11) (.var 32))
        (.leaf (.one (.bool (.bvar 12))))
        (.leaf (.one (.bool (.tt false)))))
       (.leaf (.one (.bool (.tt false)))))
      (.leaf (.one (.bool (.tt false)))))
     (.leaf (.one (.bool (.tt false))))))
    (.leaf (.one (.bool (.tt false)))))
   (.leaf (.one (.bool (.tt false)))))
  (.leaf (.one (.bool (.tt false)))))
 (.leaf (.one (.bool (.tt false))))))))))))
def sP_wakes : Spec := ⟨fun k => match k with | 0 => sI_small | 1 => sI_one | 2 => sI_given | 3 => sI_do | _ => fun _ _ => 0, fun k => match k with | 0 => sB_small | 1 => sB_one | 2 => sB_given | 3 => sB_do | _ => fun _ _ => false⟩
set_option maxRecDepth 100000 in
theorem sR_wakes : funK ⟨tys_XbF, [sM_small 0, sM_one 1, sM_given 2, sM_do 3]⟩ 200 Try.f14 [] ⟨[], [], []⟩ = sT_wakes := by kernel_rfl
set_option maxRecDepth 100000 in
set_option maxHeartbeats 8000000 in
theorem sX_wakes  : (∀ w, Calls Try.prog 14 #[] w fun e w' => e = .returned (.bool true) ∧ Ext w w') ∧ valIn (.bool true) = true := by
  refine fun_calls (cx := ⟨tys_XbF, [sM_small 0, sM_one 1, sM_given 2, sM_do 3]⟩) (sp := sP_wakes) (t := sT_wakes) (by kernel_rfl) tysok_XbF (List.forall_mem_cons.2 ⟨sK_small rfl rfl, List.forall_mem_cons.2 ⟨sK_one rfl rfl, List.forall_mem_cons.2 ⟨sK_given rfl rfl, List.forall_mem_cons.2 ⟨sK_do rfl rfl, fun _ h => (by cases h)⟩⟩⟩⟩) (keys_of (by kernel_rfl)) Try.func14 ⟨fun n => ([] : List Int).getD n 0, fun n => ([] : List Bool).getD n false⟩ sR_wakes (by kernel_rfl) ?_ rfl (by intro p hp; cases hp) ?_ ?_
  · intro n k hk
    have hlt : n < 0 := by
      rcases Nat.lt_or_ge n 0 with h | h
      · exact h
      · rw [List.getElem?_eq_none h] at hk; cases hk
    omega
  · intro ρ hag
    show some ([] : List Value) = _
    rfl
  · intro ρ hag
    simp only [sT_wakes, Tr.asks, eqs, E.I, E.B, E.L, V.den, C.den, denL, den0, den0L, Option.map_some, Nat.add_zero, Nat.reduceAdd, and_true]
    simp only [sP_wakes, b01, Pi.eta, Pu.eta, Rg.eta, sI_small, sB_small, sI_one, sB_one, sI_given, sB_given, sI_do, sB_do]
    rintro ⟨e0, e1, e2, e3⟩
    (try simp only [e0, e1, e2, e3, Pi.eta, Pu.eta, Rg.eta])
    (try clear e0 e1 e2 e3)
    rintro ⟨e4, e5, e6, e7⟩
    (try simp only [e4, e5, e6, e7, Pi.eta, Pu.eta, Rg.eta])
    (try clear e4 e5 e6 e7)
    rintro ⟨e8, e9, e10, e11, e12⟩
    (try simp only [e8, e9, e10, e11, e12, Pi.eta, Pu.eta, Rg.eta])
    (try clear e8 e9 e10 e11 e12)
    rintro ⟨e13, e14, e15, e16⟩
    (try simp only [e13, e14, e15, e16, Pi.eta, Pu.eta, Rg.eta])
    (try clear e13 e14 e15 e16)
    rintro ⟨e17, e18, e19, e20⟩
    (try simp only [e17, e18, e19, e20, Pi.eta, Pu.eta, Rg.eta])
    (try clear e17 e18 e19 e20)
    rintro ⟨e21, e22, e23, e24⟩
    (try simp only [e21, e22, e23, e24, Pi.eta, Pu.eta, Rg.eta])
    (try clear e21 e22 e23 e24)
    rintro ⟨e25, e26, e27, e28⟩
    (try simp only [e25, e26, e27, e28, Pi.eta, Pu.eta, Rg.eta])
    (try clear e25 e26 e27 e28)
    refine ⟨fun c0 => ?_, fun c0 => ?_⟩
    · skip
      refine ⟨fun c1 => ?_, fun c1 => ?_⟩
      · skip
        refine ⟨fun c2 => ?_, fun c2 => ?_⟩
        · skip
          refine ⟨fun c3 => ?_, fun c3 => ?_⟩
          · skip
            rintro ⟨e29, e30, e31, e32⟩
            (try simp only [e29, e30, e31, e32, Pi.eta, Pu.eta, Rg.eta])
            (try clear e29 e30 e31 e32)
            refine ⟨fun c4 => ?_, fun c4 => ?_⟩
            · skip
              refine ⟨fun c5 => ?_, fun c5 => ?_⟩
              · skip
                refine ⟨fun c6 => ?_, fun c6 => ?_⟩
                · skip
                  refine ⟨fun c7 => ?_, fun c7 => ?_⟩
                  · skip
                    all_goals
                      refine congrArg some ?_
                      (first | rfl | exact congrArg Value.bool (by decide +kernel) | (exfalso; revert c0 c1 c2 c3 c4 c5 c6 c7; decide +kernel))
                  · skip
                    all_goals
                      refine congrArg some ?_
                      (first | rfl | exact congrArg Value.bool (by decide +kernel) | (exfalso; revert c0 c1 c2 c3 c4 c5 c6 c7; decide +kernel))
                · skip
                  all_goals
                    refine congrArg some ?_
                    (first | rfl | exact congrArg Value.bool (by decide +kernel) | (exfalso; revert c0 c1 c2 c3 c4 c5 c6; decide +kernel))
              · skip
                all_goals
                  refine congrArg some ?_
                  (first | rfl | exact congrArg Value.bool (by decide +kernel) | (exfalso; revert c0 c1 c2 c3 c4 c5; decide +kernel))
            · skip
              all_goals
                refine congrArg some ?_
                (first | rfl | exact congrArg Value.bool (by decide +kernel) | (exfalso; revert c0 c1 c2 c3 c4; decide +kernel))
          · skip
            all_goals
              refine congrArg some ?_
              (first | rfl | exact congrArg Value.bool (by decide +kernel) | (exfalso; revert c0 c1 c2 c3; decide +kernel))
        · skip
          all_goals
            refine congrArg some ?_
            (first | rfl | exact congrArg Value.bool (by decide +kernel) | (exfalso; revert c0 c1 c2; decide +kernel))
      · skip
        all_goals
          refine congrArg some ?_
          (first | rfl | exact congrArg Value.bool (by decide +kernel) | (exfalso; revert c0 c1; decide +kernel))
    · skip
      all_goals
        refine congrArg some ?_
        (first | rfl | exact congrArg Value.bool (by decide +kernel) | (exfalso; revert c0; decide +kernel))
def sM_wakes (key : Nat) : Sm := ⟨14, key, [], [(false, [.bool])], false⟩
def sI_wakes : Nat → List Int → Int
  | _, _ => 0
def sB_wakes : Nat → List Int → Bool
  | 0, [] => true
  | _, _ => false
theorem sK_wakes {sp : Spec} {key : Nat} (hI : sp.I key = sI_wakes) (hB : sp.B key = sB_wakes) : SmOk Try.prog sp (sM_wakes key) := by
  refine SmOk.of (.inl ⟨run_enter Try.func14 (by kernel_rfl) (by kernel_rfl), fun xs vals h => ?_⟩) (.inr (.inr ⟨_, rfl⟩))
  obtain ⟨rfl, rfl⟩ := shN h
  refine ⟨_, sX_wakes , fun ρ v0 he => ?_⟩
  have he' : ρ.b (v0 + 0) = sp.B key 0 [] ∧ True := he
  simp only [hI, hB] at he'
  obtain ⟨e0, -⟩ := he'
  show some (.bool (ρ.b (v0 + 0)) : Value) = _
  rw [e0]
  rfl
def sT_hold : Tr :=
(.call 0 [.bool] (.cons (.var 1) (.cons (.var 2) (.cons (.var 3) (.cons (.var 4) (.cons (.var 9) .nil))))) 11
 (.br (.bvar 11)
 (.call 0 [.bool] (.cons (.var 5) (.cons (.var 6) (.cons (.var 7) (.cons (.var 8) (.cons (.var 10) .nil))))) 12
  (.br (.bvar 12)
  (.call 2 [.int .u64, .int .u64, .int .i64, .int .i64, .bool] (.cons (.var 1) (.cons (.var 2) (.cons (.var 3) (.cons (.var 4) .nil)))) 13
   (.br (.bvar 17)
   (.call 0 [.bool] (.cons (.var 13) (.cons (.var 14) (.cons (.var 15) (.cons (.var 16) (.cons (.var 9) .nil))))) 18
    (.br (.bvar 18)
    (.call 3 [.bool] (.cons (.var 13) (.cons (.var 14) (.cons (.var 15) (.cons (.var 16) (.cons (.var 1) (.cons (.var 2) (.cons (.var 3) (.cons (.var 4) .nil)))))))) 19
     (.br (.bvar 19)
     (.call 4 [.int .u64, .int .u64, .int .i64, .int .i64] (.cons (.var 1) (.cons (.var 2) (.cons (.var 3) (.cons (.var 4) (.cons (.var 5) (.cons (.var 6) (.cons (.var 7) (.cons (.var 8) .nil)))))))) 20
      (.call 0 [.bool] (.cons (.var 20) (.cons (.var 21) (.cons (.var 22) (.cons (.var 23) (.cons (.var 9) .nil))))) 24
      (.br (.bvar 24)
      (.call 0 [.bool] (.cons (.var 20) (.cons (.var 21) (.cons (.var 22) (.cons (.var 23) (.cons (.var 10) .nil))))) 25
       (.br (.bvar 25)
       (.call 5 [.int .u64, .int .u64, .int .i64, .int .i64] (.cons (.var 1) (.cons (.var 2) (.cons (.var 3) (.cons (.var 4) .nil)))) 26
        (.call 6 [.int .u64] (.cons (.var 9) (.cons (.lit 32) .nil)) 30
        (.call 0 [.bool] (.cons (.var 26) (.cons (.var 27) (.cons (.var 28) (.cons (.var 29) (.cons (.var 30) .nil))))) 31
        (.br (.bvar 31)
        (.call 7 [.int .u64, .int .i64] (.cons (.var 0) (.cons (.lit 64) (.cons (.var 9) (.cons (.var 10) .nil)))) 32
         (.br (.eq (.var 33) (.lit 0))
         (.call 8 [.int .u64, .int .u64, .int .i64, .int .i64] (.cons (.var 0) (.cons (.var 1) (.cons (.var 2) (.cons (.var 3) (.cons (.var 4) (.cons (.var 5) (.cons (.var 6) (.cons (.var 7) (.cons (.var 8) .nil))))))))) 34
          (.call 0 [.bool] (.cons (.var 34) (.cons (.var 35) (.cons (.var 36) (.cons (.var 37) (.cons (.var 32) .nil))))) 38
          (.br (.bvar 38)
          (.call 9 [.int .u64, .int .u64, .int .i64, .int .i64, .bool] (.cons (.var 1) (.cons (.var 2) (.cons (.var 3) (.cons (.var 4) (.cons (.var 5) (.cons (.var 6) (.cons (.var 7) (.cons (.var 8) .nil)))))))) 39
           (.call 0 [.bool] (.cons (.var 1) (.cons (.var 2) (.cons (.var 3) (.cons (.var 4) (.cons (.var 10) .nil))))) 44
           (.br (.bvar 43)
           (.call 0 [.bool] (.cons (.var 39) (.cons (.var 40) (.cons (.var 41) (.cons (.var 42) (.cons (.var 10) .nil))))) 45
            (.br (.beq (.bvar 44) (.bvar 45))
            (.call 1 [.bool] .nil 46
             (.leaf (.one (.bool (.bvar 46)))))
            (.leaf (.one (.bool (.tt false))))))
           (.br (.bvar 44)
            (.leaf (.one (.bool (.tt false))))
            (.call 1 [.bool] .nil 45
             (.leaf (.one (.bool (.bvar 45)))))))))
          (.leaf (.one (.bool (.tt false)))))))
         (.call 9 [.int .u64, .int .u64, .int .i64, .int .i64, .bool] (.cons (.var 1) (.cons (.var 2) (.cons (.var 3) (.cons (.var 4) (.cons (.var 5) (.cons (.var 6) (.cons (.var 7) (.cons (.var 8) .nil)))))))) 34
          (.call 0 [.bool] (.cons (.var 1) (.cons (.var 2) (.cons (.var 3) (.cons (.var 4) (.cons (.var 10) .nil))))) 39
          (.br (.bvar 38)
          (.call 0 [.bool] (.cons (.var 34) (.cons (.var 35) (.cons (.var 36) (.cons (.var 37) (.cons (.var 10) .nil))))) 40
           (.br (.beq (.bvar 39) (.bvar 40))
           (.call 1 [.bool] .nil 41
            (.leaf (.one (.bool (.bvar 41)))))
           (.leaf (.one (.bool (.tt false))))))
          (.br (.bvar 39)
           (.leaf (.one (.bool (.tt false))))
           (.call 1 [.bool] .nil 40
            (.leaf (.one (.bool (.bvar 40)))))))))))
        (.leaf (.one (.bool (.tt false))))))))
       (.leaf (.one (.bool (.tt false))))))
      (.leaf (.one (.bool (.tt false)))))))
     (.leaf (.one (.bool (.tt false))))))
    (.leaf (.one (.bool (.tt false))))))
   (.leaf (.one (.bool (.tt false))))))
  (.call 1 [.bool] .nil 13
   (.leaf (.one (.bool (.bvar 13)))))))
 (.call 1 [.bool] .nil 12
  (.leaf (.one (.bool (.bvar 12)))))))
def sP_hold : Spec := ⟨fun k => match k with | 0 => sI_has | 1 => sI_wakes | 2 => sI_nar | 3 => sI_in | 4 => sI_join | 5 => sI_low | 6 => sI_rcut | 7 => sI_bits | 8 => sI_do | 9 => sI_meet | _ => fun _ _ => 0, fun k => match k with | 0 => sB_has | 1 => sB_wakes | 2 => sB_nar | 3 => sB_in | 4 => sB_join | 5 => sB_low | 6 => sB_rcut | 7 => sB_bits | 8 => sB_do | 9 => sB_meet | _ => fun _ _ => false⟩
set_option maxRecDepth 100000 in
theorem sR_hold : funK ⟨tys_XbF, [sM_has 0, sM_wakes 1, sM_nar 2, sM_in 3, sM_join 4, sM_low 5, sM_rcut 6, sM_bits 7, sM_do 8, sM_meet 9]⟩ 200 Try.f6 [.one (.int .i8 (.var 0)), .agg [.int .u64 (.var 1), .int .u64 (.var 2), .int .i64 (.var 3), .int .i64 (.var 4)], .agg [.int .u64 (.var 5), .int .u64 (.var 6), .int .i64 (.var 7), .int .i64 (.var 8)], .one (.int .u64 (.var 9)), .one (.int .u64 (.var 10))] ⟨[], [], [some .i8, some .u64, some .u64, some .i64, some .i64, some .u64, some .u64, some .i64, some .i64, some .u64, some .u64]⟩ = sT_hold := by kernel_rfl
set_option maxRecDepth 100000 in
set_option maxHeartbeats 8000000 in
theorem sX_hold (op : Int) (hop : inK .i8 op = true) (a : Rg) (ha : Rg.ok a) (b : Rg) (hb : Rg.ok b) (v : Int) (hv : inK .u64 v = true) (x : Int) (hx : inK .u64 x = true) : (∀ w, Calls Try.prog 6 #[.int .i8 op, .agg #[.int .u64 a.ul, .int .u64 a.uh, .int .i64 a.sl, .int .i64 a.sh], .agg #[.int .u64 b.ul, .int .u64 b.uh, .int .i64 b.sl, .int .i64 b.sh], .int .u64 v, .int .u64 x] w fun e w' => e = .returned (.bool true) ∧ Ext w w') ∧ valIn (.bool true) = true := by
  refine fun_calls (cx := ⟨tys_XbF, [sM_has 0, sM_wakes 1, sM_nar 2, sM_in 3, sM_join 4, sM_low 5, sM_rcut 6, sM_bits 7, sM_do 8, sM_meet 9]⟩) (sp := sP_hold) (t := sT_hold) (by kernel_rfl) tysok_XbF (List.forall_mem_cons.2 ⟨sK_has rfl rfl, List.forall_mem_cons.2 ⟨sK_wakes rfl rfl, List.forall_mem_cons.2 ⟨sK_nar rfl rfl, List.forall_mem_cons.2 ⟨sK_in rfl rfl, List.forall_mem_cons.2 ⟨sK_join rfl rfl, List.forall_mem_cons.2 ⟨sK_low rfl rfl, List.forall_mem_cons.2 ⟨sK_rcut rfl rfl, List.forall_mem_cons.2 ⟨sK_bits rfl rfl, List.forall_mem_cons.2 ⟨sK_do rfl rfl, List.forall_mem_cons.2 ⟨sK_meet rfl rfl, fun _ h => (by cases h)⟩⟩⟩⟩⟩⟩⟩⟩⟩⟩) (keys_of (by kernel_rfl)) Try.func6 ⟨fun n => ([op, a.ul, a.uh, a.sl, a.sh, b.ul, b.uh, b.sl, b.sh, v, x] : List Int).getD n 0, fun n => ([false, false, false, false, false, false, false, false, false, false, false] : List Bool).getD n false⟩ sR_hold (by kernel_rfl) ?_ rfl (by intro p hp; cases hp) ?_ ?_
  · intro n k hk
    have hlt : n < 11 := by
      rcases Nat.lt_or_ge n 11 with h | h
      · exact h
      · rw [List.getElem?_eq_none h] at hk; cases hk
    rcases (show n = 0 ∨ n = 1 ∨ n = 2 ∨ n = 3 ∨ n = 4 ∨ n = 5 ∨ n = 6 ∨ n = 7 ∨ n = 8 ∨ n = 9 ∨ n = 10 by omega) with rfl | rfl | rfl | rfl | rfl | rfl | rfl | rfl | rfl | rfl | rfl
    · cases hk; exact hop
    · cases hk; exact ha.1
    · cases hk; exact ha.2.1
    · cases hk; exact ha.2.2.1
    · cases hk; exact ha.2.2.2
    · cases hk; exact hb.1
    · cases hk; exact hb.2.1
    · cases hk; exact hb.2.2.1
    · cases hk; exact hb.2.2.2
    · cases hk; exact hv
    · cases hk; exact hx
  · intro ρ hag
    have g0 : ρ.i 0 = op := (hag 0 (by decide)).1.symm
    have g1 : ρ.i 1 = a.ul := (hag 1 (by decide)).1.symm
    have g2 : ρ.i 2 = a.uh := (hag 2 (by decide)).1.symm
    have g3 : ρ.i 3 = a.sl := (hag 3 (by decide)).1.symm
    have g4 : ρ.i 4 = a.sh := (hag 4 (by decide)).1.symm
    have g5 : ρ.i 5 = b.ul := (hag 5 (by decide)).1.symm
    have g6 : ρ.i 6 = b.uh := (hag 6 (by decide)).1.symm
    have g7 : ρ.i 7 = b.sl := (hag 7 (by decide)).1.symm
    have g8 : ρ.i 8 = b.sh := (hag 8 (by decide)).1.symm
    have g9 : ρ.i 9 = v := (hag 9 (by decide)).1.symm
    have g10 : ρ.i 10 = x := (hag 10 (by decide)).1.symm
    show some ([.int .i8 (ρ.i 0), .agg #[.int .u64 (ρ.i 1), .int .u64 (ρ.i 2), .int .i64 (ρ.i 3), .int .i64 (ρ.i 4)], .agg #[.int .u64 (ρ.i 5), .int .u64 (ρ.i 6), .int .i64 (ρ.i 7), .int .i64 (ρ.i 8)], .int .u64 (ρ.i 9), .int .u64 (ρ.i 10)] : List Value) = _
    rw [g0, g1, g2, g3, g4, g5, g6, g7, g8, g9, g10]
  · intro ρ hag
    have g0 : ρ.i 0 = op := (hag 0 (by decide)).1.symm
    have g1 : ρ.i 1 = a.ul := (hag 1 (by decide)).1.symm
    have g2 : ρ.i 2 = a.uh := (hag 2 (by decide)).1.symm
    have g3 : ρ.i 3 = a.sl := (hag 3 (by decide)).1.symm
    have g4 : ρ.i 4 = a.sh := (hag 4 (by decide)).1.symm
    have g5 : ρ.i 5 = b.ul := (hag 5 (by decide)).1.symm
    have g6 : ρ.i 6 = b.uh := (hag 6 (by decide)).1.symm
    have g7 : ρ.i 7 = b.sl := (hag 7 (by decide)).1.symm
    have g8 : ρ.i 8 = b.sh := (hag 8 (by decide)).1.symm
    have g9 : ρ.i 9 = v := (hag 9 (by decide)).1.symm
    have g10 : ρ.i 10 = x := (hag 10 (by decide)).1.symm
    simp only [sT_hold, Tr.asks, eqs, E.I, E.B, E.L, V.den, C.den, denL, den0, den0L, Option.map_some, Nat.add_zero, Nat.reduceAdd, and_true, Rg.eta, g0, g1, g2, g3, g4, g5, g6, g7, g8, g9, g10]
    simp only [sP_hold, b01, Pi.eta, Pu.eta, Rg.eta, sI_has, sB_has, sI_wakes, sB_wakes, sI_nar, sB_nar, sI_in, sB_in, sI_join, sB_join, sI_low, sB_low, sI_rcut, sB_rcut, sI_bits, sB_bits, sI_do, sB_do, sI_meet, sB_meet]
    have wa := Rg.wf_of ha
    have wb := Rg.wf_of hb
    have gv := inK_u64 hv
    have gx := inK_u64 hx
    have hz := zdo_bd op 64 v x gv.1 gv.2 gx.1 gx.2
    have f1 : bhas a v = true → bnok a = true := bhas_nok wa gv.1 gv.2
    have f2 : bnok a = true → bhas (bnar a) v = bhas a v := bhas_bnar wa gv.1 gv.2
    have f3 : bnok a = true → bin (bnar a) a = true := bin_nar
    have f4 : bhas a v = true → bmay b = true → bhas (bjoin a b) v = true := has_join1
    have f5 : bmay a = true → bhas b x = true → bhas (bjoin a b) x = true := has_join2
    have f6 : bhas a v = true → bhas (blow a) (zcut v 32) = true := fun h => by rw [zcut_32 v]; exact has_low gv.1 h
    have f7 : bhas a v = true → bhas b x = true → bhas (bdo op a b) (zdo op 64 v x) = true := fun h1 h2 => has_do wa wb gv.1 gv.2 gx.1 gx.2 h1 h2 hz.1 hz.2
    have f8 : bhas b x = true → bhas a x = (bmeets a b && bhas (bmeet a b) x) := has_meet wa wb gx.1 gx.2
    have f9 : bhas a v = true → bmay a = true := bhas_may
    have f10 : bhas b x = true → bmay b = true := bhas_may
    generalize zdo op 64 v x = zz at *
    generalize zcut v 32 = zc at *
    clear hz
    intro e11
    (try simp only [e11, Pi.eta, Pu.eta, Rg.eta])
    (try clear e11)
    refine ⟨fun c0 => ?_, fun c0 => ?_⟩
    · skip
      intro e12
      (try simp only [e12, Pi.eta, Pu.eta, Rg.eta])
      (try clear e12)
      refine ⟨fun c1 => ?_, fun c1 => ?_⟩
      · skip
        rintro ⟨e13, e14, e15, e16, e17⟩
        (try simp only [e13, e14, e15, e16, e17, Pi.eta, Pu.eta, Rg.eta])
        (try clear e13 e14 e15 e16 e17)
        refine ⟨fun c2 => ?_, fun c2 => ?_⟩
        · skip
          intro e18
          (try simp only [e18, Pi.eta, Pu.eta, Rg.eta])
          (try clear e18)
          refine ⟨fun c3 => ?_, fun c3 => ?_⟩
          · skip
            intro e19
            (try simp only [e19, Pi.eta, Pu.eta, Rg.eta])
            (try clear e19)
            refine ⟨fun c4 => ?_, fun c4 => ?_⟩
            · skip
              rintro ⟨e20, e21, e22, e23⟩
              (try simp only [e20, e21, e22, e23, Pi.eta, Pu.eta, Rg.eta])
              (try clear e20 e21 e22 e23)
              intro e24
              (try simp only [e24, Pi.eta, Pu.eta, Rg.eta])
              (try clear e24)
              refine ⟨fun c5 => ?_, fun c5 => ?_⟩
              · skip
                intro e25
                (try simp only [e25, Pi.eta, Pu.eta, Rg.eta])
                (try clear e25)
                refine ⟨fun c6 => ?_, fun c6 => ?_⟩
                · skip
                  rintro ⟨e26, e27, e28, e29⟩
                  (try simp only [e26, e27, e28, e29, Pi.eta, Pu.eta, Rg.eta])
                  (try clear e26 e27 e28 e29)
                  intro e30
                  (try simp only [e30, Pi.eta, Pu.eta, Rg.eta])
                  (try clear e30)
                  intro e31
                  (try simp only [e31, Pi.eta, Pu.eta, Rg.eta])
                  (try clear e31)
                  refine ⟨fun c7 => ?_, fun c7 => ?_⟩
                  · skip
                    rintro ⟨e32, e33⟩
                    (try simp only [e32, e33, Pi.eta, Pu.eta, Rg.eta])
                    (try clear e32 e33)
                    refine ⟨fun c8 => ?_, fun c8 => ?_⟩
                    · skip
                      rintro ⟨e34, e35, e36, e37⟩
                      (try simp only [e34, e35, e36, e37, Pi.eta, Pu.eta, Rg.eta])
                      (try clear e34 e35 e36 e37)
                      intro e38
                      (try simp only [e38, Pi.eta, Pu.eta, Rg.eta])
                      (try clear e38)
                      refine ⟨fun c9 => ?_, fun c9 => ?_⟩
                      · skip
                        rintro ⟨e39, e40, e41, e42, e43⟩
                        (try simp only [e39, e40, e41, e42, e43, Pi.eta, Pu.eta, Rg.eta])
                        (try clear e39 e40 e41 e42 e43)
                        intro e44
                        (try simp only [e44, Pi.eta, Pu.eta, Rg.eta])
                        (try clear e44)
                        refine ⟨fun c10 => ?_, fun c10 => ?_⟩
                        · skip
                          intro e45
                          (try simp only [e45, Pi.eta, Pu.eta, Rg.eta])
                          (try clear e45)
                          refine ⟨fun c11 => ?_, fun c11 => ?_⟩
                          · skip
                            intro e46
                            (try simp only [e46, Pi.eta, Pu.eta, Rg.eta])
                            (try clear e46)
                            all_goals
                              refine congrArg some ?_
                              (simp_all)
                          · skip
                            all_goals
                              refine congrArg some ?_
                              (simp_all)
                        · skip
                          refine ⟨fun c12 => ?_, fun c12 => ?_⟩
                          · skip
                            all_goals
                              refine congrArg some ?_
                              (simp_all)
                          · skip
                            intro e45
                            (try simp only [e45, Pi.eta, Pu.eta, Rg.eta])
                            (try clear e45)
                            all_goals
                              refine congrArg some ?_
                              (simp_all)
                      · skip
                        all_goals
                          refine congrArg some ?_
                          (simp_all)
                    · skip
                      rintro ⟨e34, e35, e36, e37, e38⟩
                      (try simp only [e34, e35, e36, e37, e38, Pi.eta, Pu.eta, Rg.eta])
                      (try clear e34 e35 e36 e37 e38)
                      intro e39
                      (try simp only [e39, Pi.eta, Pu.eta, Rg.eta])
                      (try clear e39)
                      refine ⟨fun c13 => ?_, fun c13 => ?_⟩
                      · skip
                        intro e40
                        (try simp only [e40, Pi.eta, Pu.eta, Rg.eta])
                        (try clear e40)
                        refine ⟨fun c14 => ?_, fun c14 => ?_⟩
                        · skip
                          intro e41
                          (try simp only [e41, Pi.eta, Pu.eta, Rg.eta])
                          (try clear e41)
                          all_goals
                            refine congrArg some ?_
                            (simp_all)
                        · skip
                          all_goals
                            refine congrArg some ?_
                            (simp_all)
                      · skip
                        refine ⟨fun c15 => ?_, fun c15 => ?_⟩
                        · skip
                          all_goals
                            refine congrArg some ?_
                            (simp_all)
                        · skip
                          intro e40
                          (try simp only [e40, Pi.eta, Pu.eta, Rg.eta])
                          (try clear e40)
                          all_goals
                            refine congrArg some ?_
                            (simp_all)
                  · skip
                    all_goals
                      refine congrArg some ?_
                      (simp_all)
                · skip
                  all_goals
                    refine congrArg some ?_
                    (simp_all)
              · skip
                all_goals
                  refine congrArg some ?_
                  (simp_all)
            · skip
              all_goals
                refine congrArg some ?_
                (simp_all)
          · skip
            all_goals
              refine congrArg some ?_
              (simp_all)
        · skip
          all_goals
            refine congrArg some ?_
            (simp_all)
      · skip
        intro e13
        (try simp only [e13, Pi.eta, Pu.eta, Rg.eta])
        (try clear e13)
        all_goals
          refine congrArg some ?_
          (simp_all)
    · skip
      intro e12
      (try simp only [e12, Pi.eta, Pu.eta, Rg.eta])
      (try clear e12)
      all_goals
        refine congrArg some ?_
        (simp_all)
def sM_hold (key : Nat) : Sm := ⟨6, key, [(false, [.int .i8]), (true, [.int .u64, .int .u64, .int .i64, .int .i64]), (true, [.int .u64, .int .u64, .int .i64, .int .i64]), (false, [.int .u64]), (false, [.int .u64])], [(false, [.bool])], false⟩
def sI_hold : Nat → List Int → Int
  | _, _ => 0
def sB_hold : Nat → List Int → Bool
  | 0, [x0, x1, x2, x3, x4, x5, x6, x7, x8, x9, x10] => (fun (op : Int) (a : Rg) (b : Rg) (v : Int) (x : Int) => true) x0 ⟨x1, x2, x3, x4⟩ ⟨x5, x6, x7, x8⟩ x9 x10
  | _, _ => false
theorem sK_hold {sp : Spec} {key : Nat} (hI : sp.I key = sI_hold) (hB : sp.B key = sB_hold) : SmOk Try.prog sp (sM_hold key) := by
  refine SmOk.of (.inl ⟨run_enter Try.func6 (by kernel_rfl) (by kernel_rfl), fun xs vals h => ?_⟩) (.inr (.inr ⟨_, rfl⟩))
  obtain ⟨_, _, _, d1, h1, rfl⟩ := shO h
  obtain ⟨x0, rfl, rfl, gx0⟩ := ckI d1
  obtain ⟨_, _, _, p2, h2, rfl⟩ := shA h1
  obtain ⟨_, _, _, d2_0, p2_0, rfl⟩ := cksC p2
  obtain ⟨x1, rfl, rfl, gx1⟩ := ckI d2_0
  obtain ⟨_, _, _, d2_1, p2_1, rfl⟩ := cksC p2_0
  obtain ⟨x2, rfl, rfl, gx2⟩ := ckI d2_1
  obtain ⟨_, _, _, d2_2, p2_2, rfl⟩ := cksC p2_1
  obtain ⟨x3, rfl, rfl, gx3⟩ := ckI d2_2
  obtain ⟨_, _, _, d2_3, p2_3, rfl⟩ := cksC p2_2
  obtain ⟨x4, rfl, rfl, gx4⟩ := ckI d2_3
  obtain ⟨rfl, rfl⟩ := cksN p2_3
  obtain ⟨_, _, _, p3, h3, rfl⟩ := shA h2
  obtain ⟨_, _, _, d3_0, p3_0, rfl⟩ := cksC p3
  obtain ⟨x5, rfl, rfl, gx5⟩ := ckI d3_0
  obtain ⟨_, _, _, d3_1, p3_1, rfl⟩ := cksC p3_0
  obtain ⟨x6, rfl, rfl, gx6⟩ := ckI d3_1
  obtain ⟨_, _, _, d3_2, p3_2, rfl⟩ := cksC p3_1
  obtain ⟨x7, rfl, rfl, gx7⟩ := ckI d3_2
  obtain ⟨_, _, _, d3_3, p3_3, rfl⟩ := cksC p3_2
  obtain ⟨x8, rfl, rfl, gx8⟩ := ckI d3_3
  obtain ⟨rfl, rfl⟩ := cksN p3_3
  obtain ⟨_, _, _, d4, h4, rfl⟩ := shO h3
  obtain ⟨x9, rfl, rfl, gx9⟩ := ckI d4
  obtain ⟨_, _, _, d5, h5, rfl⟩ := shO h4
  obtain ⟨x10, rfl, rfl, gx10⟩ := ckI d5
  obtain ⟨rfl, rfl⟩ := shN h5
  refine ⟨_, sX_hold x0 gx0 ⟨x1, x2, x3, x4⟩ ⟨gx1, gx2, gx3, gx4⟩ ⟨x5, x6, x7, x8⟩ ⟨gx5, gx6, gx7, gx8⟩ x9 gx9 x10 gx10, fun ρ v0 he => ?_⟩
  have he' : ρ.b (v0 + 0) = sp.B key 0 [x0, x1, x2, x3, x4, x5, x6, x7, x8, x9, x10] ∧ True := he
  simp only [hI, hB] at he'
  obtain ⟨e0, -⟩ := he'
  show some (.bool (ρ.b (v0 + 0)) : Value) = _
  rw [e0]
  rfl
theorem Rg.ok_of {a : Rg} (h : a.wf) : a.ok := ⟨u64_inK h.1, u64_inK h.2.1, i64_inK h.2.2.1, i64_inK h.2.2.2⟩
set_option maxRecDepth 100000 in
theorem law_BoundsHold {H : Type} {enc : TypeId × Value → H} {W : World} {r : Reach} {b0 : Nat} (a0 : Int) (w0 : (Lit.int .i8 a0).wf = true) (v1 : Value) (k1 : Value.okWide Try.prog W r b0 24 v1) (d1 : DataW H) (p1 : List MemPlace) (h1 : DataW.Trod enc Try.prog W 0 (fun _ => true) true 24 v1 d1 p1) (_ : ∀ x ∈ p1, x.block < W.heap.size) (v2 : Value) (k2 : Value.okWide Try.prog W r b0 24 v2) (d2 : DataW H) (p2 : List MemPlace) (h2 : DataW.Trod enc Try.prog W 0 (fun _ => true) true 24 v2 d2 p2) (_ : ∀ x ∈ p2, x.block < W.heap.size) (a3 : Int) (w3 : (Lit.int .u64 a3).wf = true) (a4 : Int) (w4 : (Lit.int .u64 a4).wf = true) :
    Calls Try.prog 6 #[.int .i8 a0, v1, v2, .int .u64 a3, .int .u64 a4] W fun e W' => e = .returned (.bool true) ∧ Below W.heap.size W W' := by
  obtain ⟨q1, rfl, g1⟩ := Rg.of_arg k1 h1
  obtain ⟨q2, rfl, g2⟩ := Rg.of_arg k2 h2
  exact (sX_hold a0 w0 q1 (Rg.ok_of g1) q2 (Rg.ok_of g2) a3 w3 a4 w4).1 W
end Go.Proofs.Ytcngfmhhaleoaaa
