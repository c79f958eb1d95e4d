/- Contracts of the small functions of the document's own package of layer 7, by the symbolic run. -/
import Derived.Test.YtcngfmhhaleoaaaXbM
import Derived.Test.YtcngfmhhaleoaaaProg
import Derived.Laws.Externs
set_option linter.unusedVariables false
set_option linter.unusedSimpArgs false
namespace Go.Proofs.Ytcngfmhhaleoaaa
open Go.RowKit Go.ChangeShapes Go.WideShapes

def tys_XbN : List (Nat × TI) := [(2, ⟨false, 1, [.int .i64 (.lit 0)], [], none, some .i64, false, false⟩),
  (4, ⟨false, 1, [.bool (.tt false)], [], none, none, false, true⟩),
  (22, ⟨false, 1, [.int .u64 (.lit 0)], [], none, some .u64, false, false⟩),
  (24, ⟨true, 4, [.int .u64 (.lit 0), .int .u64 (.lit 0), .int .i64 (.lit 0), .int .i64 (.lit 0)], [(0, 22), (1, 22), (2, 2), (3, 2)], none, none, false, false⟩)]
set_option maxRecDepth 100000 in
theorem tysck_XbN : (tys_XbN.all fun p => ckTI Try.prog p.1 p.2) = true := by kernel_rfl
theorem tysne_XbN : (tys_XbN.all fun p => !p.2.eqok) = true := by kernel_rfl
theorem tysok_XbN : ∀ t i, (t, i) ∈ tys_XbN → TIok Try.prog t i := by
  intro t i h
  have h1 := all_at (f := fun _ i => !i.eqok) tysne_XbN h
  exact TIok_of (all_at (f := ckTI Try.prog) tysck_XbN h) (fun he => by simp [he] at h1) (fun he => by simp [he] at h1)
def sT_rmay : Tr :=
(.br (.lt (.var 1) (.var 0))
 (.leaf (.one (.bool (.tt false))))
 (.leaf (.one (.bool (.not (.lt (.var 3) (.var 2)))))))
def sP_rmay : Spec := ⟨fun k => match k with | _ => fun _ _ => 0, fun k => match k with | _ => fun _ _ => false⟩
set_option maxRecDepth 100000 in
theorem sR_rmay : funK ⟨tys_XbN, []⟩ 200 Try.f23 [.agg [.int .u64 (.var 0), .int .u64 (.var 1), .int .i64 (.var 2), .int .i64 (.var 3)]] ⟨[], [], [some .u64, some .u64, some .i64, some .i64]⟩ = sT_rmay := by kernel_rfl
set_option maxRecDepth 100000 in
set_option maxHeartbeats 8000000 in
theorem sX_rmay (a : Rg) (ha : Rg.ok a) : (∀ w, Calls Try.prog 23 #[.agg #[.int .u64 a.ul, .int .u64 a.uh, .int .i64 a.sl, .int .i64 a.sh]] w fun e w' => e = .returned (.bool (bmay a)) ∧ Ext w w') ∧ valIn (.bool (bmay a)) = true := by
  refine fun_calls (cx := ⟨tys_XbN, []⟩) (sp := sP_rmay) (t := sT_rmay) (by kernel_rfl) tysok_XbN (fun _ h => (by cases h)) (keys_of (by kernel_rfl)) Try.func23 ⟨fun n => ([a.ul, a.uh, a.sl, a.sh] : List Int).getD n 0, fun n => ([false, false, false, false] : List Bool).getD n false⟩ sR_rmay (by kernel_rfl) ?_ rfl (by intro p hp; cases hp) ?_ ?_
  · intro n k hk
    have hlt : n < 4 := by
      rcases Nat.lt_or_ge n 4 with h | h
      · exact h
      · rw [List.getElem?_eq_none h] at hk; cases hk
    rcases (show n = 0 ∨ n = 1 ∨ n = 2 ∨ n = 3 by omega) with rfl | rfl | rfl | rfl
    · cases hk; exact ha.1
    · cases hk; exact ha.2.1
    · cases hk; exact ha.2.2.1
    · cases hk; exact ha.2.2.2
  · intro ρ hag
    have g0 : ρ.i 0 = a.ul := (hag 0 (by decide)).1.symm
    have g1 : ρ.i 1 = a.uh := (hag 1 (by decide)).1.symm
    have g2 : ρ.i 2 = a.sl := (hag 2 (by decide)).1.symm
    have g3 : ρ.i 3 = a.sh := (hag 3 (by decide)).1.symm
    show some ([.agg #[.int .u64 (ρ.i 0), .int .u64 (ρ.i 1), .int .i64 (ρ.i 2), .int .i64 (ρ.i 3)]] : List Value) = _
    rw [g0, g1, g2, g3]
  · intro ρ hag
    have g0 : ρ.i 0 = a.ul := (hag 0 (by decide)).1.symm
    have g1 : ρ.i 1 = a.uh := (hag 1 (by decide)).1.symm
    have g2 : ρ.i 2 = a.sl := (hag 2 (by decide)).1.symm
    have g3 : ρ.i 3 = a.sh := (hag 3 (by decide)).1.symm
    simp only [sT_rmay, Tr.asks, eqs, E.I, E.B, E.L, V.den, C.den, denL, den0, den0L, Option.map_some, Nat.add_zero, Nat.reduceAdd, and_true, Rg.eta, g0, g1, g2, g3]
    refine ⟨fun c0 => ?_, fun c0 => ?_⟩
    · skip
      all_goals
        refine congrArg some ?_
        (unfold bmay; simp_all [not_lt_le]; try (intros; omega))
    · skip
      all_goals
        refine congrArg some ?_
        (unfold bmay; simp_all [not_lt_le]; try (intros; omega))
def sM_rmay (key : Nat) : Sm := ⟨23, key, [(true, [.int .u64, .int .u64, .int .i64, .int .i64])], [(false, [.bool])], false⟩
def sI_rmay : Nat → List Int → Int
  | _, _ => 0
def sB_rmay : Nat → List Int → Bool
  | 0, [x0, x1, x2, x3] => (fun (a : Rg) => bmay a) ⟨x0, x1, x2, x3⟩
  | _, _ => false
theorem sK_rmay {sp : Spec} {key : Nat} (hI : sp.I key = sI_rmay) (hB : sp.B key = sB_rmay) : SmOk Try.prog sp (sM_rmay key) := by
  refine SmOk.of (.inl ⟨run_enter Try.func23 (by kernel_rfl) (by kernel_rfl), fun xs vals h => ?_⟩) (.inr (.inr ⟨_, rfl⟩))
  obtain ⟨_, _, _, p1, h1, rfl⟩ := shA h
  obtain ⟨_, _, _, d1_0, p1_0, rfl⟩ := cksC p1
  obtain ⟨x0, rfl, rfl, gx0⟩ := ckI d1_0
  obtain ⟨_, _, _, d1_1, p1_1, rfl⟩ := cksC p1_0
  obtain ⟨x1, rfl, rfl, gx1⟩ := ckI d1_1
  obtain ⟨_, _, _, d1_2, p1_2, rfl⟩ := cksC p1_1
  obtain ⟨x2, rfl, rfl, gx2⟩ := ckI d1_2
  obtain ⟨_, _, _, d1_3, p1_3, rfl⟩ := cksC p1_2
  obtain ⟨x3, rfl, rfl, gx3⟩ := ckI d1_3
  obtain ⟨rfl, rfl⟩ := cksN p1_3
  obtain ⟨rfl, rfl⟩ := shN h1
  refine ⟨_, sX_rmay ⟨x0, x1, x2, x3⟩ ⟨gx0, gx1, gx2, gx3⟩, fun ρ v0 he => ?_⟩
  have he' : ρ.b (v0 + 0) = sp.B key 0 [x0, x1, x2, x3] ∧ True := he
  simp only [hI, hB] at he'
  obtain ⟨e0, -⟩ := he'
  show some (.bool (ρ.b (v0 + 0)) : Value) = _
  rw [e0]
  rfl
def sT_rall : Tr :=
(.leaf (.agg [.int .u64 (.lit 0), .int .u64 (.lit 18446744073709551615), .int .i64 (.lit (-9223372036854775808)), .int .i64 (.lit 9223372036854775807)]))
def sP_rall : Spec := ⟨fun k => match k with | _ => fun _ _ => 0, fun k => match k with | _ => fun _ _ => false⟩
set_option maxRecDepth 100000 in
theorem sR_rall : funK ⟨tys_XbN, []⟩ 200 Try.f24 [] ⟨[], [], []⟩ = sT_rall := by kernel_rfl
set_option maxRecDepth 100000 in
set_option maxHeartbeats 8000000 in
theorem sX_rall  : (∀ w, Calls Try.prog 24 #[] w fun e w' => e = .returned (.agg #[.int .u64 ball.ul, .int .u64 ball.uh, .int .i64 ball.sl, .int .i64 ball.sh]) ∧ Ext w w') ∧ valIn (.agg #[.int .u64 ball.ul, .int .u64 ball.uh, .int .i64 ball.sl, .int .i64 ball.sh]) = true := by
  refine fun_calls (cx := ⟨tys_XbN, []⟩) (sp := sP_rall) (t := sT_rall) (by kernel_rfl) tysok_XbN (fun _ h => (by cases h)) (keys_of (by kernel_rfl)) Try.func24 ⟨fun n => ([] : List Int).getD n 0, fun n => ([] : List Bool).getD n false⟩ sR_rall (by kernel_rfl) ?_ rfl (by intro p hp; cases hp) ?_ ?_
  · intro n k hk
    have hlt : n < 0 := by
      rcases Nat.lt_or_ge n 0 with h | h
      · exact h
      · rw [List.getElem?_eq_none h] at hk; cases hk
    omega
  · intro ρ hag
    show some ([] : List Value) = _
    rfl
  · intro ρ hag
    simp only [sT_rall, Tr.asks, eqs, E.I, E.B, E.L, V.den, C.den, denL, den0, den0L, Option.map_some, Nat.add_zero, Nat.reduceAdd, and_true]
    all_goals
      refine congrArg some ?_
      rfl
def sM_rall (key : Nat) : Sm := ⟨24, key, [], [(true, [.int .u64, .int .u64, .int .i64, .int .i64])], false⟩
def sI_rall : Nat → List Int → Int
  | 0, [] => ball.ul
  | 1, [] => ball.uh
  | 2, [] => ball.sl
  | 3, [] => ball.sh
  | _, _ => 0
def sB_rall : Nat → List Int → Bool
  | _, _ => false
theorem sK_rall {sp : Spec} {key : Nat} (hI : sp.I key = sI_rall) (hB : sp.B key = sB_rall) : SmOk Try.prog sp (sM_rall key) := by
  refine SmOk.of (.inl ⟨run_enter Try.func24 (by kernel_rfl) (by kernel_rfl), fun xs vals h => ?_⟩) (.inr (.inl ⟨_, rfl⟩))
  obtain ⟨rfl, rfl⟩ := shN h
  refine ⟨_, sX_rall , fun ρ v0 he => ?_⟩
  have he' : ρ.i (v0 + 0) = sp.I key 0 [] ∧ ρ.i (v0 + 1) = sp.I key 1 [] ∧ ρ.i (v0 + 2) = sp.I key 2 [] ∧ ρ.i (v0 + 3) = sp.I key 3 [] ∧ True := he
  simp only [hI, hB] at he'
  obtain ⟨e0, e1, e2, e3, -⟩ := he'
  show some (.agg #[.int .u64 (ρ.i (v0 + 0)), .int .u64 (ρ.i (v0 + 1)), .int .i64 (ρ.i (v0 + 2)), .int .i64 (ρ.i (v0 + 3))] : Value) = _
  rw [e0, e1, e2, e3]
  rfl
def sT_rone : Tr :=
(.leaf (.agg [.int .u64 (.var 0), .int .u64 (.var 0), .int .i64 (.conv .i64 (.var 0)), .int .i64 (.conv .i64 (.var 0))]))
def sP_rone : Spec := ⟨fun k => match k with | _ => fun _ _ => 0, fun k => match k with | _ => fun _ _ => false⟩
set_option maxRecDepth 100000 in
theorem sR_rone : funK ⟨tys_XbN, []⟩ 200 Try.f26 [.one (.int .u64 (.var 0))] ⟨[], [], [some .u64]⟩ = sT_rone := by kernel_rfl
set_option maxRecDepth 100000 in
set_option maxHeartbeats 8000000 in
theorem sX_rone (v : Int) (hv : inK .u64 v = true) : (∀ w, Calls Try.prog 26 #[.int .u64 v] w fun e w' => e = .returned (.agg #[.int .u64 (bone v).ul, .int .u64 (bone v).uh, .int .i64 (bone v).sl, .int .i64 (bone v).sh]) ∧ Ext w w') ∧ valIn (.agg #[.int .u64 (bone v).ul, .int .u64 (bone v).uh, .int .i64 (bone v).sl, .int .i64 (bone v).sh]) = true := by
  refine fun_calls (cx := ⟨tys_XbN, []⟩) (sp := sP_rone) (t := sT_rone) (by kernel_rfl) tysok_XbN (fun _ h => (by cases h)) (keys_of (by kernel_rfl)) Try.func26 ⟨fun n => ([v] : List Int).getD n 0, fun n => ([false] : List Bool).getD n false⟩ sR_rone (by kernel_rfl) ?_ rfl (by intro p hp; cases hp) ?_ ?_
  · intro n k hk
    have hlt : n < 1 := by
      rcases Nat.lt_or_ge n 1 with h | h
      · exact h
      · rw [List.getElem?_eq_none h] at hk; cases hk
    rcases (show n = 0 by omega) with rfl
    · cases hk; exact hv
  · intro ρ hag
    have g0 : ρ.i 0 = v := (hag 0 (by decide)).1.symm
    show some ([.int .u64 (ρ.i 0)] : List Value) = _
    rw [g0]
  · intro ρ hag
    have g0 : ρ.i 0 = v := (hag 0 (by decide)).1.symm
    simp only [sT_rone, Tr.asks, eqs, E.I, E.B, E.L, V.den, C.den, denL, den0, den0L, Option.map_some, Nat.add_zero, Nat.reduceAdd, and_true, g0]
    all_goals
      refine congrArg some ?_
      simp [bone, s64_wrap]
def sM_rone (key : Nat) : Sm := ⟨26, key, [(false, [.int .u64])], [(true, [.int .u64, .int .u64, .int .i64, .int .i64])], false⟩
def sI_rone : Nat → List Int → Int
  | 0, [x0] => (fun (v : Int) => (bone v).ul) x0
  | 1, [x0] => (fun (v : Int) => (bone v).uh) x0
  | 2, [x0] => (fun (v : Int) => (bone v).sl) x0
  | 3, [x0] => (fun (v : Int) => (bone v).sh) x0
  | _, _ => 0
def sB_rone : Nat → List Int → Bool
  | _, _ => false
theorem sK_rone {sp : Spec} {key : Nat} (hI : sp.I key = sI_rone) (hB : sp.B key = sB_rone) : SmOk Try.prog sp (sM_rone key) := by
  refine SmOk.of (.inl ⟨run_enter Try.func26 (by kernel_rfl) (by kernel_rfl), fun xs vals h => ?_⟩) (.inr (.inl ⟨_, rfl⟩))
  obtain ⟨_, _, _, d1, h1, rfl⟩ := shO h
  obtain ⟨x0, rfl, rfl, gx0⟩ := ckI d1
  obtain ⟨rfl, rfl⟩ := shN h1
  refine ⟨_, sX_rone x0 gx0, fun ρ v0 he => ?_⟩
  have he' : ρ.i (v0 + 0) = sp.I key 0 [x0] ∧ ρ.i (v0 + 1) = sp.I key 1 [x0] ∧ ρ.i (v0 + 2) = sp.I key 2 [x0] ∧ ρ.i (v0 + 3) = sp.I key 3 [x0] ∧ True := he
  simp only [hI, hB] at he'
  obtain ⟨e0, e1, e2, e3, -⟩ := he'
  show some (.agg #[.int .u64 (ρ.i (v0 + 0)), .int .u64 (ρ.i (v0 + 1)), .int .i64 (ρ.i (v0 + 2)), .int .i64 (ρ.i (v0 + 3))] : Value) = _
  rw [e0, e1, e2, e3]
  rfl
def sT_rhas : Tr :=
(.call 0 [.bool] (.cons (.var 0) (.cons (.var 1) (.cons (.var 2) (.cons (.var 3) .nil)))) 5
 (.br (.bvar 5)
 (.br (.lt (.var 4) (.var 0))
  (.leaf (.one (.bool (.tt false))))
  (.br (.lt (.var 1) (.var 4))
   (.leaf (.one (.bool (.tt false))))
   (.br (.lt (.conv .i64 (.var 4)) (.var 2))
    (.leaf (.one (.bool (.tt false))))
    (.leaf (.one (.bool (.not (.lt (.var 3) (.conv .i64 (.var 4))))))))))
 (.leaf (.one (.bool (.tt false))))))
def sP_rhas : Spec := ⟨fun k => match k with | 0 => sI_rmay | _ => fun _ _ => 0, fun k => match k with | 0 => sB_rmay | _ => fun _ _ => false⟩
set_option maxRecDepth 100000 in
theorem sR_rhas : funK ⟨tys_XbN, [sM_rmay 0]⟩ 200 Try.f27 [.agg [.int .u64 (.var 0), .int .u64 (.var 1), .int .i64 (.var 2), .int .i64 (.var 3)], .one (.int .u64 (.var 4))] ⟨[], [], [some .u64, some .u64, some .i64, some .i64, some .u64]⟩ = sT_rhas := by kernel_rfl
set_option maxRecDepth 100000 in
set_option maxHeartbeats 8000000 in
theorem sX_rhas (a : Rg) (ha : Rg.ok a) (v : Int) (hv : inK .u64 v = true) : (∀ w, Calls Try.prog 27 #[.agg #[.int .u64 a.ul, .int .u64 a.uh, .int .i64 a.sl, .int .i64 a.sh], .int .u64 v] w fun e w' => e = .returned (.bool (bhas a v)) ∧ Ext w w') ∧ valIn (.bool (bhas a v)) = true := by
  refine fun_calls (cx := ⟨tys_XbN, [sM_rmay 0]⟩) (sp := sP_rhas) (t := sT_rhas) (by kernel_rfl) tysok_XbN (List.forall_mem_cons.2 ⟨sK_rmay rfl rfl, fun _ h => (by cases h)⟩) (keys_of (by kernel_rfl)) Try.func27 ⟨fun n => ([a.ul, a.uh, a.sl, a.sh, v] : List Int).getD n 0, fun n => ([false, false, false, false, false] : List Bool).getD n false⟩ sR_rhas (by kernel_rfl) ?_ rfl (by intro p hp; cases hp) ?_ ?_
  · intro n k hk
    have hlt : n < 5 := by
      rcases Nat.lt_or_ge n 5 with h | h
      · exact h
      · rw [List.getElem?_eq_none h] at hk; cases hk
    rcases (show n = 0 ∨ n = 1 ∨ n = 2 ∨ n = 3 ∨ n = 4 by omega) with rfl | rfl | rfl | rfl | rfl
    · cases hk; exact ha.1
    · cases hk; exact ha.2.1
    · cases hk; exact ha.2.2.1
    · cases hk; exact ha.2.2.2
    · cases hk; exact hv
  · intro ρ hag
    have g0 : ρ.i 0 = a.ul := (hag 0 (by decide)).1.symm
    have g1 : ρ.i 1 = a.uh := (hag 1 (by decide)).1.symm
    have g2 : ρ.i 2 = a.sl := (hag 2 (by decide)).1.symm
    have g3 : ρ.i 3 = a.sh := (hag 3 (by decide)).1.symm
    have g4 : ρ.i 4 = v := (hag 4 (by decide)).1.symm
    show some ([.agg #[.int .u64 (ρ.i 0), .int .u64 (ρ.i 1), .int .i64 (ρ.i 2), .int .i64 (ρ.i 3)], .int .u64 (ρ.i 4)] : List Value) = _
    rw [g0, g1, g2, g3, g4]
  · intro ρ hag
    have g0 : ρ.i 0 = a.ul := (hag 0 (by decide)).1.symm
    have g1 : ρ.i 1 = a.uh := (hag 1 (by decide)).1.symm
    have g2 : ρ.i 2 = a.sl := (hag 2 (by decide)).1.symm
    have g3 : ρ.i 3 = a.sh := (hag 3 (by decide)).1.symm
    have g4 : ρ.i 4 = v := (hag 4 (by decide)).1.symm
    simp only [sT_rhas, Tr.asks, eqs, E.I, E.B, E.L, V.den, C.den, denL, den0, den0L, Option.map_some, Nat.add_zero, Nat.reduceAdd, and_true, Rg.eta, g0, g1, g2, g3, g4]
    simp only [sP_rhas, b01, Pi.eta, Pu.eta, Rg.eta, sI_rmay, sB_rmay]
    intro e5
    (try simp only [e5, Pi.eta, Pu.eta, Rg.eta])
    (try clear e5)
    refine ⟨fun c0 => ?_, fun c0 => ?_⟩
    · skip
      refine ⟨fun c1 => ?_, fun c1 => ?_⟩
      · skip
        all_goals
          refine congrArg some ?_
          (unfold bhas; simp_all [s64_wrap, not_lt_le]; try (intros; omega))
      · skip
        refine ⟨fun c2 => ?_, fun c2 => ?_⟩
        · skip
          all_goals
            refine congrArg some ?_
            (unfold bhas; simp_all [s64_wrap, not_lt_le]; try (intros; omega))
        · skip
          refine ⟨fun c3 => ?_, fun c3 => ?_⟩
          · skip
            all_goals
              refine congrArg some ?_
              (unfold bhas; simp_all [s64_wrap, not_lt_le]; try (intros; omega))
          · skip
            all_goals
              refine congrArg some ?_
              (unfold bhas; simp_all [s64_wrap, not_lt_le]; try (intros; omega))
    · skip
      all_goals
        refine congrArg some ?_
        (unfold bhas; simp_all [s64_wrap, not_lt_le]; try (intros; omega))
def sM_rhas (key : Nat) : Sm := ⟨27, key, [(true, [.int .u64, .int .u64, .int .i64, .int .i64]), (false, [.int .u64])], [(false, [.bool])], false⟩
def sI_rhas : Nat → List Int → Int
  | _, _ => 0
def sB_rhas : Nat → List Int → Bool
  | 0, [x0, x1, x2, x3, x4] => (fun (a : Rg) (v : Int) => bhas a v) ⟨x0, x1, x2, x3⟩ x4
  | _, _ => false
theorem sK_rhas {sp : Spec} {key : Nat} (hI : sp.I key = sI_rhas) (hB : sp.B key = sB_rhas) : SmOk Try.prog sp (sM_rhas key) := by
  refine SmOk.of (.inl ⟨run_enter Try.func27 (by kernel_rfl) (by kernel_rfl), fun xs vals h => ?_⟩) (.inr (.inr ⟨_, rfl⟩))
  obtain ⟨_, _, _, p1, h1, rfl⟩ := shA h
  obtain ⟨_, _, _, d1_0, p1_0, rfl⟩ := cksC p1
  obtain ⟨x0, rfl, rfl, gx0⟩ := ckI d1_0
  obtain ⟨_, _, _, d1_1, p1_1, rfl⟩ := cksC p1_0
  obtain ⟨x1, rfl, rfl, gx1⟩ := ckI d1_1
  obtain ⟨_, _, _, d1_2, p1_2, rfl⟩ := cksC p1_1
  obtain ⟨x2, rfl, rfl, gx2⟩ := ckI d1_2
  obtain ⟨_, _, _, d1_3, p1_3, rfl⟩ := cksC p1_2
  obtain ⟨x3, rfl, rfl, gx3⟩ := ckI d1_3
  obtain ⟨rfl, rfl⟩ := cksN p1_3
  obtain ⟨_, _, _, d2, h2, rfl⟩ := shO h1
  obtain ⟨x4, rfl, rfl, gx4⟩ := ckI d2
  obtain ⟨rfl, rfl⟩ := shN h2
  refine ⟨_, sX_rhas ⟨x0, x1, x2, x3⟩ ⟨gx0, gx1, gx2, gx3⟩ x4 gx4, fun ρ v0 he => ?_⟩
  have he' : ρ.b (v0 + 0) = sp.B key 0 [x0, x1, x2, x3, x4] ∧ True := he
  simp only [hI, hB] at he'
  obtain ⟨e0, -⟩ := he'
  show some (.bool (ρ.b (v0 + 0)) : Value) = _
  rw [e0]
  rfl
def sT_rsgn : Tr :=
(.br (.eq (.bin .shr .u64 (.var 0) (.lit 63)) (.bin .shr .u64 (.var 1) (.lit 63)))
 (.leaf (.agg [.int .u64 (.var 0), .int .u64 (.var 1), .int .i64 (.mx (.var 2) (.conv .i64 (.var 0))), .int .i64 (.mn (.var 3) (.conv .i64 (.var 1)))]))
 (.leaf (.agg [.int .u64 (.var 0), .int .u64 (.var 1), .int .i64 (.var 2), .int .i64 (.var 3)])))
def sP_rsgn : Spec := ⟨fun k => match k with | _ => fun _ _ => 0, fun k => match k with | _ => fun _ _ => false⟩
set_option maxRecDepth 100000 in
theorem sR_rsgn : funK ⟨tys_XbN, []⟩ 200 Try.f66 [.agg [.int .u64 (.var 0), .int .u64 (.var 1), .int .i64 (.var 2), .int .i64 (.var 3)]] ⟨[], [], [some .u64, some .u64, some .i64, some .i64]⟩ = sT_rsgn := by kernel_rfl
set_option maxRecDepth 100000 in
set_option maxHeartbeats 8000000 in
theorem sX_rsgn (a : Rg) (ha : Rg.ok a) : (∀ w, Calls Try.prog 66 #[.agg #[.int .u64 a.ul, .int .u64 a.uh, .int .i64 a.sl, .int .i64 a.sh]] w fun e w' => e = .returned (.agg #[.int .u64 (bsgn a).ul, .int .u64 (bsgn a).uh, .int .i64 (bsgn a).sl, .int .i64 (bsgn a).sh]) ∧ Ext w w') ∧ valIn (.agg #[.int .u64 (bsgn a).ul, .int .u64 (bsgn a).uh, .int .i64 (bsgn a).sl, .int .i64 (bsgn a).sh]) = true := by
  refine fun_calls (cx := ⟨tys_XbN, []⟩) (sp := sP_rsgn) (t := sT_rsgn) (by kernel_rfl) tysok_XbN (fun _ h => (by cases h)) (keys_of (by kernel_rfl)) Try.func66 ⟨fun n => ([a.ul, a.uh, a.sl, a.sh] : List Int).getD n 0, fun n => ([false, false, false, false] : List Bool).getD n false⟩ sR_rsgn (by kernel_rfl) ?_ rfl (by intro p hp; cases hp) ?_ ?_
  · intro n k hk
    have hlt : n < 4 := by
      rcases Nat.lt_or_ge n 4 with h | h
      · exact h
      · rw [List.getElem?_eq_none h] at hk; cases hk
    rcases (show n = 0 ∨ n = 1 ∨ n = 2 ∨ n = 3 by omega) with rfl | rfl | rfl | rfl
    · cases hk; exact ha.1
    · cases hk; exact ha.2.1
    · cases hk; exact ha.2.2.1
    · cases hk; exact ha.2.2.2
  · intro ρ hag
    have g0 : ρ.i 0 = a.ul := (hag 0 (by decide)).1.symm
    have g1 : ρ.i 1 = a.uh := (hag 1 (by decide)).1.symm
    have g2 : ρ.i 2 = a.sl := (hag 2 (by decide)).1.symm
    have g3 : ρ.i 3 = a.sh := (hag 3 (by decide)).1.symm
    show some ([.agg #[.int .u64 (ρ.i 0), .int .u64 (ρ.i 1), .int .i64 (ρ.i 2), .int .i64 (ρ.i 3)]] : List Value) = _
    rw [g0, g1, g2, g3]
  · intro ρ hag
    have g0 : ρ.i 0 = a.ul := (hag 0 (by decide)).1.symm
    have g1 : ρ.i 1 = a.uh := (hag 1 (by decide)).1.symm
    have g2 : ρ.i 2 = a.sl := (hag 2 (by decide)).1.symm
    have g3 : ρ.i 3 = a.sh := (hag 3 (by decide)).1.symm
    simp only [sT_rsgn, Tr.asks, eqs, E.I, E.B, E.L, V.den, C.den, denL, den0, den0L, Option.map_some, Nat.add_zero, Nat.reduceAdd, and_true, Rg.eta, g0, g1, g2, g3]
    have wfg := Rg.wf_of ha
    refine ⟨fun c0 => ?_, fun c0 => ?_⟩
    · skip
      all_goals
        refine congrArg some ?_
        (rw [sgn_t wfg c0])
    · skip
      all_goals
        refine congrArg some ?_
        (rw [sgn_f wfg c0])
def sM_rsgn (key : Nat) : Sm := ⟨66, key, [(true, [.int .u64, .int .u64, .int .i64, .int .i64])], [(true, [.int .u64, .int .u64, .int .i64, .int .i64])], false⟩
def sI_rsgn : Nat → List Int → Int
  | 0, [x0, x1, x2, x3] => (fun (a : Rg) => (bsgn a).ul) ⟨x0, x1, x2, x3⟩
  | 1, [x0, x1, x2, x3] => (fun (a : Rg) => (bsgn a).uh) ⟨x0, x1, x2, x3⟩
  | 2, [x0, x1, x2, x3] => (fun (a : Rg) => (bsgn a).sl) ⟨x0, x1, x2, x3⟩
  | 3, [x0, x1, x2, x3] => (fun (a : Rg) => (bsgn a).sh) ⟨x0, x1, x2, x3⟩
  | _, _ => 0
def sB_rsgn : Nat → List Int → Bool
  | _, _ => false
theorem sK_rsgn {sp : Spec} {key : Nat} (hI : sp.I key = sI_rsgn) (hB : sp.B key = sB_rsgn) : SmOk Try.prog sp (sM_rsgn key) := by
  refine SmOk.of (.inl ⟨run_enter Try.func66 (by kernel_rfl) (by kernel_rfl), fun xs vals h => ?_⟩) (.inr (.inl ⟨_, rfl⟩))
  obtain ⟨_, _, _, p1, h1, rfl⟩ := shA h
  obtain ⟨_, _, _, d1_0, p1_0, rfl⟩ := cksC p1
  obtain ⟨x0, rfl, rfl, gx0⟩ := ckI d1_0
  obtain ⟨_, _, _, d1_1, p1_1, rfl⟩ := cksC p1_0
  obtain ⟨x1, rfl, rfl, gx1⟩ := ckI d1_1
  obtain ⟨_, _, _, d1_2, p1_2, rfl⟩ := cksC p1_1
  obtain ⟨x2, rfl, rfl, gx2⟩ := ckI d1_2
  obtain ⟨_, _, _, d1_3, p1_3, rfl⟩ := cksC p1_2
  obtain ⟨x3, rfl, rfl, gx3⟩ := ckI d1_3
  obtain ⟨rfl, rfl⟩ := cksN p1_3
  obtain ⟨rfl, rfl⟩ := shN h1
  refine ⟨_, sX_rsgn ⟨x0, x1, x2, x3⟩ ⟨gx0, gx1, gx2, gx3⟩, fun ρ v0 he => ?_⟩
  have he' : ρ.i (v0 + 0) = sp.I key 0 [x0, x1, x2, x3] ∧ ρ.i (v0 + 1) = sp.I key 1 [x0, x1, x2, x3] ∧ ρ.i (v0 + 2) = sp.I key 2 [x0, x1, x2, x3] ∧ ρ.i (v0 + 3) = sp.I key 3 [x0, x1, x2, x3] ∧ True := he
  simp only [hI, hB] at he'
  obtain ⟨e0, e1, e2, e3, -⟩ := he'
  show some (.agg #[.int .u64 (ρ.i (v0 + 0)), .int .u64 (ρ.i (v0 + 1)), .int .i64 (ρ.i (v0 + 2)), .int .i64 (ρ.i (v0 + 3))] : Value) = _
  rw [e0, e1, e2, e3]
  rfl
def sT_runs : Tr :=
(.br (.beq (.lt (.var 2) (.lit 0)) (.lt (.var 3) (.lit 0)))
 (.leaf (.agg [.int .u64 (.mx (.var 0) (.conv .u64 (.var 2))), .int .u64 (.mn (.var 1) (.conv .u64 (.var 3))), .int .i64 (.var 2), .int .i64 (.var 3)]))
 (.leaf (.agg [.int .u64 (.var 0), .int .u64 (.var 1), .int .i64 (.var 2), .int .i64 (.var 3)])))
def sP_runs : Spec := ⟨fun k => match k with | _ => fun _ _ => 0, fun k => match k with | _ => fun _ _ => false⟩
set_option maxRecDepth 100000 in
theorem sR_runs : funK ⟨tys_XbN, []⟩ 200 Try.f67 [.agg [.int .u64 (.var 0), .int .u64 (.var 1), .int .i64 (.var 2), .int .i64 (.var 3)]] ⟨[], [], [some .u64, some .u64, some .i64, some .i64]⟩ = sT_runs := by kernel_rfl
set_option maxRecDepth 100000 in
set_option maxHeartbeats 8000000 in
theorem sX_runs (a : Rg) (ha : Rg.ok a) : (∀ w, Calls Try.prog 67 #[.agg #[.int .u64 a.ul, .int .u64 a.uh, .int .i64 a.sl, .int .i64 a.sh]] w fun e w' => e = .returned (.agg #[.int .u64 (buns a).ul, .int .u64 (buns a).uh, .int .i64 (buns a).sl, .int .i64 (buns a).sh]) ∧ Ext w w') ∧ valIn (.agg #[.int .u64 (buns a).ul, .int .u64 (buns a).uh, .int .i64 (buns a).sl, .int .i64 (buns a).sh]) = true := by
  refine fun_calls (cx := ⟨tys_XbN, []⟩) (sp := sP_runs) (t := sT_runs) (by kernel_rfl) tysok_XbN (fun _ h => (by cases h)) (keys_of (by kernel_rfl)) Try.func67 ⟨fun n => ([a.ul, a.uh, a.sl, a.sh] : List Int).getD n 0, fun n => ([false, false, false, false] : List Bool).getD n false⟩ sR_runs (by kernel_rfl) ?_ rfl (by intro p hp; cases hp) ?_ ?_
  · intro n k hk
    have hlt : n < 4 := by
      rcases Nat.lt_or_ge n 4 with h | h
      · exact h
      · rw [List.getElem?_eq_none h] at hk; cases hk
    rcases (show n = 0 ∨ n = 1 ∨ n = 2 ∨ n = 3 by omega) with rfl | rfl | rfl | rfl
    · cases hk; exact ha.1
    · cases hk; exact ha.2.1
    · cases hk; exact ha.2.2.1
    · cases hk; exact ha.2.2.2
  · intro ρ hag
    have g0 : ρ.i 0 = a.ul := (hag 0 (by decide)).1.symm
    have g1 : ρ.i 1 = a.uh := (hag 1 (by decide)).1.symm
    have g2 : ρ.i 2 = a.sl := (hag 2 (by decide)).1.symm
    have g3 : ρ.i 3 = a.sh := (hag 3 (by decide)).1.symm
    show some ([.agg #[.int .u64 (ρ.i 0), .int .u64 (ρ.i 1), .int .i64 (ρ.i 2), .int .i64 (ρ.i 3)]] : List Value) = _
    rw [g0, g1, g2, g3]
  · intro ρ hag
    have g0 : ρ.i 0 = a.ul := (hag 0 (by decide)).1.symm
    have g1 : ρ.i 1 = a.uh := (hag 1 (by decide)).1.symm
    have g2 : ρ.i 2 = a.sl := (hag 2 (by decide)).1.symm
    have g3 : ρ.i 3 = a.sh := (hag 3 (by decide)).1.symm
    simp only [sT_runs, Tr.asks, eqs, E.I, E.B, E.L, V.den, C.den, denL, den0, den0L, Option.map_some, Nat.add_zero, Nat.reduceAdd, and_true, Rg.eta, g0, g1, g2, g3]
    refine ⟨fun c0 => ?_, fun c0 => ?_⟩
    · skip
      all_goals
        refine congrArg some ?_
        (rw [uns_t c0])
    · skip
      all_goals
        refine congrArg some ?_
        (rw [uns_f c0])
def sM_runs (key : Nat) : Sm := ⟨67, key, [(true, [.int .u64, .int .u64, .int .i64, .int .i64])], [(true, [.int .u64, .int .u64, .int .i64, .int .i64])], false⟩
def sI_runs : Nat → List Int → Int
  | 0, [x0, x1, x2, x3] => (fun (a : Rg) => (buns a).ul) ⟨x0, x1, x2, x3⟩
  | 1, [x0, x1, x2, x3] => (fun (a : Rg) => (buns a).uh) ⟨x0, x1, x2, x3⟩
  | 2, [x0, x1, x2, x3] => (fun (a : Rg) => (buns a).sl) ⟨x0, x1, x2, x3⟩
  | 3, [x0, x1, x2, x3] => (fun (a : Rg) => (buns a).sh) ⟨x0, x1, x2, x3⟩
  | _, _ => 0
def sB_runs : Nat → List Int → Bool
  | _, _ => false
theorem sK_runs {sp : Spec} {key : Nat} (hI : sp.I key = sI_runs) (hB : sp.B key = sB_runs) : SmOk Try.prog sp (sM_runs key) := by
  refine SmOk.of (.inl ⟨run_enter Try.func67 (by kernel_rfl) (by kernel_rfl), fun xs vals h => ?_⟩) (.inr (.inl ⟨_, rfl⟩))
  obtain ⟨_, _, _, p1, h1, rfl⟩ := shA h
  obtain ⟨_, _, _, d1_0, p1_0, rfl⟩ := cksC p1
  obtain ⟨x0, rfl, rfl, gx0⟩ := ckI d1_0
  obtain ⟨_, _, _, d1_1, p1_1, rfl⟩ := cksC p1_0
  obtain ⟨x1, rfl, rfl, gx1⟩ := ckI d1_1
  obtain ⟨_, _, _, d1_2, p1_2, rfl⟩ := cksC p1_1
  obtain ⟨x2, rfl, rfl, gx2⟩ := ckI d1_2
  obtain ⟨_, _, _, d1_3, p1_3, rfl⟩ := cksC p1_2
  obtain ⟨x3, rfl, rfl, gx3⟩ := ckI d1_3
  obtain ⟨rfl, rfl⟩ := cksN p1_3
  obtain ⟨rfl, rfl⟩ := shN h1
  refine ⟨_, sX_runs ⟨x0, x1, x2, x3⟩ ⟨gx0, gx1, gx2, gx3⟩, fun ρ v0 he => ?_⟩
  have he' : ρ.i (v0 + 0) = sp.I key 0 [x0, x1, x2, x3] ∧ ρ.i (v0 + 1) = sp.I key 1 [x0, x1, x2, x3] ∧ ρ.i (v0 + 2) = sp.I key 2 [x0, x1, x2, x3] ∧ ρ.i (v0 + 3) = sp.I key 3 [x0, x1, x2, x3] ∧ True := he
  simp only [hI, hB] at he'
  obtain ⟨e0, e1, e2, e3, -⟩ := he'
  show some (.agg #[.int .u64 (ρ.i (v0 + 0)), .int .u64 (ρ.i (v0 + 1)), .int .i64 (ρ.i (v0 + 2)), .int .i64 (ρ.i (v0 + 3))] : Value) = _
  rw [e0, e1, e2, e3]
  rfl
def sT_rnar : Tr :=
(.call 0 [.bool] (.cons (.var 0) (.cons (.var 1) (.cons (.var 2) (.cons (.var 3) .nil)))) 4
 (.br (.bvar 4)
 (.call 2 [.int .u64, .int .u64, .int .i64, .int .i64] (.cons (.var 0) (.cons (.var 1) (.cons (.var 2) (.cons (.var 3) .nil)))) 5
  (.call 0 [.bool] (.cons (.var 5) (.cons (.var 6) (.cons (.var 7) (.cons (.var 8) .nil)))) 9
  (.br (.bvar 9)
  (.call 3 [.int .u64, .int .u64, .int .i64, .int .i64] (.cons (.var 5) (.cons (.var 6) (.cons (.var 7) (.cons (.var 8) .nil)))) 10
   (.call 0 [.bool] (.cons (.var 10) (.cons (.var 11) (.cons (.var 12) (.cons (.var 13) .nil)))) 14
   (.br (.bvar 14)
   (.call 2 [.int .u64, .int .u64, .int .i64, .int .i64] (.cons (.var 10) (.cons (.var 11) (.cons (.var 12) (.cons (.var 13) .nil)))) 15
    (.call 0 [.bool] (.cons (.var 15) (.cons (.var 16) (.cons (.var 17) (.cons (.var 18) .nil)))) 19
    (.br (.bvar 19)
    (.leaf (.tup [(true, [.int .u64 (.var 15), .int .u64 (.var 16), .int .i64 (.var 17), .int .i64 (.var 18)]), (false, [.bool (.tt true)])]))
    (.call 1 [.int .u64, .int .u64, .int .i64, .int .i64] .nil 20
     (.leaf (.tup [(true, [.int .u64 (.var 20), .int .u64 (.var 21), .int .i64 (.var 22), .int .i64 (.var 23)]), (false, [.bool (.tt false)])]))))))
   (.call 1 [.int .u64, .int .u64, .int .i64, .int .i64] .nil 15
    (.leaf (.tup [(true, [.int .u64 (.var 15), .int .u64 (.var 16), .int .i64 (.var 17), .int .i64 (.var 18)]), (false, [.bool (.tt false)])]))))))
  (.call 1 [.int .u64, .int .u64, .int .i64, .int .i64] .nil 10
   (.leaf (.tup [(true, [.int .u64 (.var 10), .int .u64 (.var 11), .int .i64 (.var 12), .int .i64 (.var 13)]), (false, [.bool (.tt false)])]))))))
 (.call 1 [.int .u64, .int .u64, .int .i64, .int .i64] .nil 5
  (.leaf (.tup [(true, [.int .u64 (.var 5), .int .u64 (.var 6), .int .i64 (.var 7), .int .i64 (.var 8)]), (false, [.bool (.tt false)])])))))
def sP_rnar : Spec := ⟨fun k => match k with | 0 => sI_rmay | 1 => sI_rall | 2 => sI_rsgn | 3 => sI_runs | _ => fun _ _ => 0, fun k => match k with | 0 => sB_rmay | 1 => sB_rall | 2 => sB_rsgn | 3 => sB_runs | _ => fun _ _ => false⟩
set_option maxRecDepth 100000 in
theorem sR_rnar : funK ⟨tys_XbN, [sM_rmay 0, sM_rall 1, sM_rsgn 2, sM_runs 3]⟩ 200 Try.f22 [.agg [.int .u64 (.var 0), .int .u64 (.var 1), .int .i64 (.var 2), .int .i64 (.var 3)]] ⟨[], [], [some .u64, some .u64, some .i64, some .i64]⟩ = sT_rnar := by kernel_rfl
set_option maxRecDepth 100000 in
set_option maxHeartbeats 8000000 in
theorem sX_rnar (a : Rg) (ha : Rg.ok a) : (∀ w, Calls Try.prog 22 #[.agg #[.int .u64 a.ul, .int .u64 a.uh, .int .i64 a.sl, .int .i64 a.sh]] w fun e w' => e = .returned (.tuple #[.agg #[.int .u64 (bnar a).ul, .int .u64 (bnar a).uh, .int .i64 (bnar a).sl, .int .i64 (bnar a).sh], .bool (bnok a)]) ∧ Ext w w') ∧ valIn (.tuple #[.agg #[.int .u64 (bnar a).ul, .int .u64 (bnar a).uh, .int .i64 (bnar a).sl, .int .i64 (bnar a).sh], .bool (bnok a)]) = true := by
  refine fun_calls (cx := ⟨tys_XbN, [sM_rmay 0, sM_rall 1, sM_rsgn 2, sM_runs 3]⟩) (sp := sP_rnar) (t := sT_rnar) (by kernel_rfl) tysok_XbN (List.forall_mem_cons.2 ⟨sK_rmay rfl rfl, List.forall_mem_cons.2 ⟨sK_rall rfl rfl, List.forall_mem_cons.2 ⟨sK_rsgn rfl rfl, List.forall_mem_cons.2 ⟨sK_runs rfl rfl, fun _ h => (by cases h)⟩⟩⟩⟩) (keys_of (by kernel_rfl)) Try.func22 ⟨fun n => ([a.ul, a.uh, a.sl, a.sh] : List Int).getD n 0, fun n => ([false, false, false, false] : List Bool).getD n false⟩ sR_rnar (by kernel_rfl) ?_ rfl (by intro p hp; cases hp) ?_ ?_
  · intro n k hk
    have hlt : n < 4 := by
      rcases Nat.lt_or_ge n 4 with h | h
      · exact h
      · rw [List.getElem?_eq_none h] at hk; cases hk
    rcases (show n = 0 ∨ n = 1 ∨ n = 2 ∨ n = 3 by omega) with rfl | rfl | rfl | rfl
    · cases hk; exact ha.1
    · cases hk; exact ha.2.1
    · cases hk; exact ha.2.2.1
    · cases hk; exact ha.2.2.2
  · intro ρ hag
    have g0 : ρ.i 0 = a.ul := (hag 0 (by decide)).1.symm
    have g1 : ρ.i 1 = a.uh := (hag 1 (by decide)).1.symm
    have g2 : ρ.i 2 = a.sl := (hag 2 (by decide)).1.symm
    have g3 : ρ.i 3 = a.sh := (hag 3 (by decide)).1.symm
    show some ([.agg #[.int .u64 (ρ.i 0), .int .u64 (ρ.i 1), .int .i64 (ρ.i 2), .int .i64 (ρ.i 3)]] : List Value) = _
    rw [g0, g1, g2, g3]
  · intro ρ hag
    have g0 : ρ.i 0 = a.ul := (hag 0 (by decide)).1.symm
    have g1 : ρ.i 1 = a.uh := (hag 1 (by decide)).1.symm
    have g2 : ρ.i 2 = a.sl := (hag 2 (by decide)).1.symm
    have g3 : ρ.i 3 = a.sh := (hag 3 (by decide)).1.symm
    simp only [sT_rnar, Tr.asks, eqs, E.I, E.B, E.L, V.den, C.den, denL, den0, den0L, Option.map_some, Nat.add_zero, Nat.reduceAdd, and_true, Rg.eta, g0, g1, g2, g3]
    simp only [sP_rnar, b01, Pi.eta, Pu.eta, Rg.eta, sI_rmay, sB_rmay, sI_rall, sB_rall, sI_rsgn, sB_rsgn, sI_runs, sB_runs]
    intro e4
    (try simp only [e4, Pi.eta, Pu.eta, Rg.eta])
    (try clear e4)
    refine ⟨fun c0 => ?_, fun c0 => ?_⟩
    · skip
      rintro ⟨e5, e6, e7, e8⟩
      (try simp only [e5, e6, e7, e8, Pi.eta, Pu.eta, Rg.eta])
      (try clear e5 e6 e7 e8)
      intro e9
      (try simp only [e9, Pi.eta, Pu.eta, Rg.eta])
      (try clear e9)
      refine ⟨fun c1 => ?_, fun c1 => ?_⟩
      · skip
        rintro ⟨e10, e11, e12, e13⟩
        (try simp only [e10, e11, e12, e13, Pi.eta, Pu.eta, Rg.eta])
        (try clear e10 e11 e12 e13)
        intro e14
        (try simp only [e14, Pi.eta, Pu.eta, Rg.eta])
        (try clear e14)
        refine ⟨fun c2 => ?_, fun c2 => ?_⟩
        · skip
          rintro ⟨e15, e16, e17, e18⟩
          (try simp only [e15, e16, e17, e18, Pi.eta, Pu.eta, Rg.eta])
          (try clear e15 e16 e17 e18)
          intro e19
          (try simp only [e19, Pi.eta, Pu.eta, Rg.eta])
          (try clear e19)
          refine ⟨fun c3 => ?_, fun c3 => ?_⟩
          · skip
            all_goals
              refine congrArg some ?_
              (unfold bnar bnok; simp_all)
          · skip
            rintro ⟨e20, e21, e22, e23⟩
            (try simp only [e20, e21, e22, e23, Pi.eta, Pu.eta, Rg.eta])
            (try clear e20 e21 e22 e23)
            all_goals
              refine congrArg some ?_
              (unfold bnar bnok; simp_all)
        · skip
          rintro ⟨e15, e16, e17, e18⟩
          (try simp only [e15, e16, e17, e18, Pi.eta, Pu.eta, Rg.eta])
          (try clear e15 e16 e17 e18)
          all_goals
            refine congrArg some ?_
            (unfold bnar bnok; simp_all)
      · skip
        rintro ⟨e10, e11, e12, e13⟩
        (try simp only [e10, e11, e12, e13, Pi.eta, Pu.eta, Rg.eta])
        (try clear e10 e11 e12 e13)
        all_goals
          refine congrArg some ?_
          (unfold bnar bnok; simp_all)
    · skip
      rintro ⟨e5, e6, e7, e8⟩
      (try simp only [e5, e6, e7, e8, Pi.eta, Pu.eta, Rg.eta])
      (try clear e5 e6 e7 e8)
      all_goals
        refine congrArg some ?_
        (unfold bnar bnok; simp_all)
def sM_rnar (key : Nat) : Sm := ⟨22, key, [(true, [.int .u64, .int .u64, .int .i64, .int .i64])], [(true, [.int .u64, .int .u64, .int .i64, .int .i64]), (false, [.bool])], true⟩
def sI_rnar : Nat → List Int → Int
  | 0, [x0, x1, x2, x3] => (fun (a : Rg) => (bnar a).ul) ⟨x0, x1, x2, x3⟩
  | 1, [x0, x1, x2, x3] => (fun (a : Rg) => (bnar a).uh) ⟨x0, x1, x2, x3⟩
  | 2, [x0, x1, x2, x3] => (fun (a : Rg) => (bnar a).sl) ⟨x0, x1, x2, x3⟩
  | 3, [x0, x1, x2, x3] => (fun (a : Rg) => (bnar a).sh) ⟨x0, x1, x2, x3⟩
  | _, _ => 0
def sB_rnar : Nat → List Int → Bool
  | 4, [x0, x1, x2, x3] => (fun (a : Rg) => bnok a) ⟨x0, x1, x2, x3⟩
  | _, _ => false
theorem sK_rnar {sp : Spec} {key : Nat} (hI : sp.I key = sI_rnar) (hB : sp.B key = sB_rnar) : SmOk Try.prog sp (sM_rnar key) := by
  refine SmOk.of (.inl ⟨run_enter Try.func22 (by kernel_rfl) (by kernel_rfl), fun xs vals h => ?_⟩) (.inl rfl)
  obtain ⟨_, _, _, p1, h1, rfl⟩ := shA h
  obtain ⟨_, _, _, d1_0, p1_0, rfl⟩ := cksC p1
  obtain ⟨x0, rfl, rfl, gx0⟩ := ckI d1_0
  obtain ⟨_, _, _, d1_1, p1_1, rfl⟩ := cksC p1_0
  obtain ⟨x1, rfl, rfl, gx1⟩ := ckI d1_1
  obtain ⟨_, _, _, d1_2, p1_2, rfl⟩ := cksC p1_1
  obtain ⟨x2, rfl, rfl, gx2⟩ := ckI d1_2
  obtain ⟨_, _, _, d1_3, p1_3, rfl⟩ := cksC p1_2
  obtain ⟨x3, rfl, rfl, gx3⟩ := ckI d1_3
  obtain ⟨rfl, rfl⟩ := cksN p1_3
  obtain ⟨rfl, rfl⟩ := shN h1
  refine ⟨_, sX_rnar ⟨x0, x1, x2, x3⟩ ⟨gx0, gx1, gx2, gx3⟩, fun ρ v0 he => ?_⟩
  have he' : ρ.i (v0 + 0) = sp.I key 0 [x0, x1, x2, x3] ∧ ρ.i (v0 + 1) = sp.I key 1 [x0, x1, x2, x3] ∧ ρ.i (v0 + 2) = sp.I key 2 [x0, x1, x2, x3] ∧ ρ.i (v0 + 3) = sp.I key 3 [x0, x1, x2, x3] ∧ ρ.b (v0 + 4) = sp.B key 4 [x0, x1, x2, x3] ∧ True := he
  simp only [hI, hB] at he'
  obtain ⟨e0, e1, e2, e3, e4, -⟩ := he'
  show some (.tuple #[.agg #[.int .u64 (ρ.i (v0 + 0)), .int .u64 (ρ.i (v0 + 1)), .int .i64 (ρ.i (v0 + 2)), .int .i64 (ρ.i (v0 + 3))], .bool (ρ.b (v0 + 4))] : Value) = _
  rw [e0, e1, e2, e3, e4]
  rfl
def sT_rnard : Tr :=
(.call 0 [.int .u64, .int .u64, .int .i64, .int .i64, .bool] (.cons (.var 0) (.cons (.var 1) (.cons (.var 2) (.cons (.var 3) .nil)))) 4
 (.leaf (.agg [.int .u64 (.var 4), .int .u64 (.var 5), .int .i64 (.var 6), .int .i64 (.var 7)])))
def sP_rnard : Spec := ⟨fun k => match k with | 0 => sI_rnar | _ => fun _ _ => 0, fun k => match k with | 0 => sB_rnar | _ => fun _ _ => false⟩
set_option maxRecDepth 100000 in
theorem sR_rnard : funK ⟨tys_XbN, [sM_rnar 0]⟩ 200 Try.f74 [.agg [.int .u64 (.var 0), .int .u64 (.var 1), .int .i64 (.var 2), .int .i64 (.var 3)]] ⟨[], [], [some .u64, some .u64, some .i64, some .i64]⟩ = sT_rnard := by kernel_rfl
set_option maxRecDepth 100000 in
set_option maxHeartbeats 8000000 in
theorem sX_rnard (a : Rg) (ha : Rg.ok a) : (∀ w, Calls Try.prog 74 #[.agg #[.int .u64 a.ul, .int .u64 a.uh, .int .i64 a.sl, .int .i64 a.sh]] w fun e w' => e = .returned (.agg #[.int .u64 (bnar a).ul, .int .u64 (bnar a).uh, .int .i64 (bnar a).sl, .int .i64 (bnar a).sh]) ∧ Ext w w') ∧ valIn (.agg #[.int .u64 (bnar a).ul, .int .u64 (bnar a).uh, .int .i64 (bnar a).sl, .int .i64 (bnar a).sh]) = true := by
  refine fun_calls (cx := ⟨tys_XbN, [sM_rnar 0]⟩) (sp := sP_rnard) (t := sT_rnard) (by kernel_rfl) tysok_XbN (List.forall_mem_cons.2 ⟨sK_rnar rfl rfl, fun _ h => (by cases h)⟩) (keys_of (by kernel_rfl)) Try.func74 ⟨fun n => ([a.ul, a.uh, a.sl, a.sh] : List Int).getD n 0, fun n => ([false, false, false, false] : List Bool).getD n false⟩ sR_rnard (by kernel_rfl) ?_ rfl (by intro p hp; cases hp) ?_ ?_
  · intro n k hk
    have hlt : n < 4 := by
      rcases Nat.lt_or_ge n 4 with h | h
      · exact h
      · rw [List.getElem?_eq_none h] at hk; cases hk
    rcases (show n = 0 ∨ n = 1 ∨ n = 2 ∨ n = 3 by omega) with rfl | rfl | rfl | rfl
    · cases hk; exact ha.1
    · cases hk; exact ha.2.1
    · cases hk; exact ha.2.2.1
    · cases hk; exact ha.2.2.2
  · intro ρ hag
    have g0 : ρ.i 0 = a.ul := (hag 0 (by decide)).1.symm
    have g1 : ρ.i 1 = a.uh := (hag 1 (by decide)).1.symm
    have g2 : ρ.i 2 = a.sl := (hag 2 (by decide)).1.symm
    have g3 : ρ.i 3 = a.sh := (hag 3 (by decide)).1.symm
    show some ([.agg #[.int .u64 (ρ.i 0), .int .u64 (ρ.i 1), .int .i64 (ρ.i 2), .int .i64 (ρ.i 3)]] : List Value) = _
    rw [g0, g1, g2, g3]
  · intro ρ hag
    have g0 : ρ.i 0 = a.ul := (hag 0 (by decide)).1.symm
    have g1 : ρ.i 1 = a.uh := (hag 1 (by decide)).1.symm
    have g2 : ρ.i 2 = a.sl := (hag 2 (by decide)).1.symm
    have g3 : ρ.i 3 = a.sh := (hag 3 (by decide)).1.symm
    simp only [sT_rnard, Tr.asks, eqs, E.I, E.B, E.L, V.den, C.den, denL, den0, den0L, Option.map_some, Nat.add_zero, Nat.reduceAdd, and_true, Rg.eta, g0, g1, g2, g3]
    simp only [sP_rnard, b01, Pi.eta, Pu.eta, Rg.eta, sI_rnar, sB_rnar]
    rintro ⟨e4, e5, e6, e7, e8⟩
    (try simp only [e4, e5, e6, e7, e8, Pi.eta, Pu.eta, Rg.eta])
    (try clear e4 e5 e6 e7 e8)
    all_goals
      refine congrArg some ?_
      rfl
def sM_rnard (key : Nat) : Sm := ⟨74, key, [(true, [.int .u64, .int .u64, .int .i64, .int .i64])], [(true, [.int .u64, .int .u64, .int .i64, .int .i64])], false⟩
def sI_rnard : Nat → List Int → Int
  | 0, [x0, x1, x2, x3] => (fun (a : Rg) => (bnar a).ul) ⟨x0, x1, x2, x3⟩
  | 1, [x0, x1, x2, x3] => (fun (a : Rg) => (bnar a).uh) ⟨x0, x1, x2, x3⟩
  | 2, [x0, x1, x2, x3] => (fun (a : Rg) => (bnar a).sl) ⟨x0, x1, x2, x3⟩
  | 3, [x0, x1, x2, x3] => (fun (a : Rg) => (bnar a).sh) ⟨x0, x1, x2, x3⟩
  | _, _ => 0
def sB_rnard : Nat → List Int → Bool
  | _, _ => false
theorem sK_rnard {sp : Spec} {key : Nat} (hI : sp.I key = sI_rnard) (hB : sp.B key = sB_rnard) : SmOk Try.prog sp (sM_rnard key) := by
  refine SmOk.of (.inl ⟨run_enter Try.func74 (by kernel_rfl) (by kernel_rfl), fun xs vals h => ?_⟩) (.inr (.inl ⟨_, rfl⟩))
  obtain ⟨_, _, _, p1, h1, rfl⟩ := shA h
  obtain ⟨_, _, _, d1_0, p1_0, rfl⟩ := cksC p1
  obtain ⟨x0, rfl, rfl, gx0⟩ := ckI d1_0
  obtain ⟨_, _, _, d1_1, p1_1, rfl⟩ := cksC p1_0
  obtain ⟨x1, rfl, rfl, gx1⟩ := ckI d1_1
  obtain ⟨_, _, _, d1_2, p1_2, rfl⟩ := cksC p1_1
  obtain ⟨x2, rfl, rfl, gx2⟩ := ckI d1_2
  obtain ⟨_, _, _, d1_3, p1_3, rfl⟩ := cksC p1_2
  obtain ⟨x3, rfl, rfl, gx3⟩ := ckI d1_3
  obtain ⟨rfl, rfl⟩ := cksN p1_3
  obtain ⟨rfl, rfl⟩ := shN h1
  refine ⟨_, sX_rnard ⟨x0, x1, x2, x3⟩ ⟨gx0, gx1, gx2, gx3⟩, fun ρ v0 he => ?_⟩
  have he' : ρ.i (v0 + 0) = sp.I key 0 [x0, x1, x2, x3] ∧ ρ.i (v0 + 1) = sp.I key 1 [x0, x1, x2, x3] ∧ ρ.i (v0 + 2) = sp.I key 2 [x0, x1, x2, x3] ∧ ρ.i (v0 + 3) = sp.I key 3 [x0, x1, x2, x3] ∧ True := he
  simp only [hI, hB] at he'
  obtain ⟨e0, e1, e2, e3, -⟩ := he'
  show some (.agg #[.int .u64 (ρ.i (v0 + 0)), .int .u64 (ρ.i (v0 + 1)), .int .i64 (ρ.i (v0 + 2)), .int .i64 (ρ.i (v0 + 3))] : Value) = _
  rw [e0, e1, e2, e3]
  rfl
def sT_rsingle : Tr :=
(.br (.eq (.var 0) (.var 1))
 (.call 0 [.bool] (.cons (.var 0) (.cons (.var 1) (.cons (.var 2) (.cons (.var 3) (.cons (.var 0) .nil))))) 4
  (.br (.bvar 4)
  (.leaf (.tup [(false, [.int .u64 (.var 0)]), (false, [.bool (.tt true)])]))
  (.leaf (.tup [(false, [.int .u64 (.lit 0)]), (false, [.bool (.tt false)])]))))
 (.leaf (.tup [(false, [.int .u64 (.lit 0)]), (false, [.bool (.tt false)])])))
def sP_rsingle : Spec := ⟨fun k => match k with | 0 => sI_rhas | _ => fun _ _ => 0, fun k => match k with | 0 => sB_rhas | _ => fun _ _ => false⟩
set_option maxRecDepth 100000 in
theorem sR_rsingle : funK ⟨tys_XbN, [sM_rhas 0]⟩ 200 Try.f21 [.agg [.int .u64 (.var 0), .int .u64 (.var 1), .int .i64 (.var 2), .int .i64 (.var 3)]] ⟨[], [], [some .u64, some .u64, some .i64, some .i64]⟩ = sT_rsingle := by kernel_rfl
set_option maxRecDepth 100000 in
set_option maxHeartbeats 8000000 in
theorem sX_rsingle (a : Rg) (ha : Rg.ok a) : (∀ w, Calls Try.prog 21 #[.agg #[.int .u64 a.ul, .int .u64 a.uh, .int .i64 a.sl, .int .i64 a.sh]] w fun e w' => e = .returned (.tuple #[.int .u64 (bsingle a), .bool (bones a)]) ∧ Ext w w') ∧ valIn (.tuple #[.int .u64 (bsingle a), .bool (bones a)]) = true := by
  refine fun_calls (cx := ⟨tys_XbN, [sM_rhas 0]⟩) (sp := sP_rsingle) (t := sT_rsingle) (by kernel_rfl) tysok_XbN (List.forall_mem_cons.2 ⟨sK_rhas rfl rfl, fun _ h => (by cases h)⟩) (keys_of (by kernel_rfl)) Try.func21 ⟨fun n => ([a.ul, a.uh, a.sl, a.sh] : List Int).getD n 0, fun n => ([false, false, false, false] : List Bool).getD n false⟩ sR_rsingle (by kernel_rfl) ?_ rfl (by intro p hp; cases hp) ?_ ?_
  · intro n k hk
    have hlt : n < 4 := by
      rcases Nat.lt_or_ge n 4 with h | h
      · exact h
      · rw [List.getElem?_eq_none h] at hk; cases hk
    rcases (show n = 0 ∨ n = 1 ∨ n = 2 ∨ n = 3 by omega) with rfl | rfl | rfl | rfl
    · cases hk; exact ha.1
    · cases hk; exact ha.2.1
    · cases hk; exact ha.2.2.1
    · cases hk; exact ha.2.2.2
  · intro ρ hag
    have g0 : ρ.i 0 = a.ul := (hag 0 (by decide)).1.symm
    have g1 : ρ.i 1 = a.uh := (hag 1 (by decide)).1.symm
    have g2 : ρ.i 2 = a.sl := (hag 2 (by decide)).1.symm
    have g3 : ρ.i 3 = a.sh := (hag 3 (by decide)).1.symm
    show some ([.agg #[.int .u64 (ρ.i 0), .int .u64 (ρ.i 1), .int .i64 (ρ.i 2), .int .i64 (ρ.i 3)]] : List Value) = _
    rw [g0, g1, g2, g3]
  · intro ρ hag
    have g0 : ρ.i 0 = a.ul := (hag 0 (by decide)).1.symm
    have g1 : ρ.i 1 = a.uh := (hag 1 (by decide)).1.symm
    have g2 : ρ.i 2 = a.sl := (hag 2 (by decide)).1.symm
    have g3 : ρ.i 3 = a.sh := (hag 3 (by decide)).1.symm
    simp only [sT_rsingle, Tr.asks, eqs, E.I, E.B, E.L, V.den, C.den, denL, den0, den0L, Option.map_some, Nat.add_zero, Nat.reduceAdd, and_true, Rg.eta, g0, g1, g2, g3]
    simp only [sP_rsingle, b01, Pi.eta, Pu.eta, Rg.eta, sI_rhas, sB_rhas]
    refine ⟨fun c0 => ?_, fun c0 => ?_⟩
    · skip
      intro e4
      (try simp only [e4, Pi.eta, Pu.eta, Rg.eta])
      (try clear e4)
      refine ⟨fun c1 => ?_, fun c1 => ?_⟩
      · skip
        all_goals
          refine congrArg some ?_
          (unfold bsingle bones; simp_all)
      · skip
        all_goals
          refine congrArg some ?_
          (unfold bsingle bones; simp_all)
    · skip
      all_goals
        refine congrArg some ?_
        (unfold bsingle bones; simp_all)
def sM_rsingle (key : Nat) : Sm := ⟨21, key, [(true, [.int .u64, .int .u64, .int .i64, .int .i64])], [(false, [.int .u64]), (false, [.bool])], true⟩
def sI_rsingle : Nat → List Int → Int
  | 0, [x0, x1, x2, x3] => (fun (a : Rg) => bsingle a) ⟨x0, x1, x2, x3⟩
  | _, _ => 0
def sB_rsingle : Nat → List Int → Bool
  | 1, [x0, x1, x2, x3] => (fun (a : Rg) => bones a) ⟨x0, x1, x2, x3⟩
  | _, _ => false
theorem sK_rsingle {sp : Spec} {key : Nat} (hI : sp.I key = sI_rsingle) (hB : sp.B key = sB_rsingle) : SmOk Try.prog sp (sM_rsingle key) := by
  refine SmOk.of (.inl ⟨run_enter Try.func21 (by kernel_rfl) (by kernel_rfl), fun xs vals h => ?_⟩) (.inl rfl)
  obtain ⟨_, _, _, p1, h1, rfl⟩ := shA h
  obtain ⟨_, _, _, d1_0, p1_0, rfl⟩ := cksC p1
  obtain ⟨x0, rfl, rfl, gx0⟩ := ckI d1_0
  obtain ⟨_, _, _, d1_1, p1_1, rfl⟩ := cksC p1_0
  obtain ⟨x1, rfl, rfl, gx1⟩ := ckI d1_1
  obtain ⟨_, _, _, d1_2, p1_2, rfl⟩ := cksC p1_1
  obtain ⟨x2, rfl, rfl, gx2⟩ := ckI d1_2
  obtain ⟨_, _, _, d1_3, p1_3, rfl⟩ := cksC p1_2
  obtain ⟨x3, rfl, rfl, gx3⟩ := ckI d1_3
  obtain ⟨rfl, rfl⟩ := cksN p1_3
  obtain ⟨rfl, rfl⟩ := shN h1
  refine ⟨_, sX_rsingle ⟨x0, x1, x2, x3⟩ ⟨gx0, gx1, gx2, gx3⟩, fun ρ v0 he => ?_⟩
  have he' : ρ.i (v0 + 0) = sp.I key 0 [x0, x1, x2, x3] ∧ ρ.b (v0 + 1) = sp.B key 1 [x0, x1, x2, x3] ∧ True := he
  simp only [hI, hB] at he'
  obtain ⟨e0, e1, -⟩ := he'
  show some (.tuple #[.int .u64 (ρ.i (v0 + 0)), .bool (ρ.b (v0 + 1))] : Value) = _
  rw [e0, e1]
  rfl
def sT_rjoin : Tr :=
(.call 0 [.bool] (.cons (.var 0) (.cons (.var 1) (.cons (.var 2) (.cons (.var 3) .nil)))) 8
 (.br (.bvar 8)
 (.call 0 [.bool] (.cons (.var 4) (.cons (.var 5) (.cons (.var 6) (.cons (.var 7) .nil)))) 9
  (.br (.bvar 9)
  (.leaf (.agg [.int .u64 (.mn (.var 0) (.var 4)), .int .u64 (.mx (.var 1) (.var 5)), .int .i64 (.mn (.var 2) (.var 6)), .int .i64 (.mx (.var 3) (.var 7))]))
  (.call 1 [.int .u64, .int .u64, .int .i64, .int .i64] .nil 10
   (.leaf (.agg [.int .u64 (.var 10), .int .u64 (.var 11), .int .i64 (.var 12), .int .i64 (.var 13)])))))
 (.call 1 [.int .u64, .int .u64, .int .i64, .int .i64] .nil 9
  (.leaf (.agg [.int .u64 (.var 9), .int .u64 (.var 10), .int .i64 (.var 11), .int .i64 (.var 12)])))))
def sP_rjoin : Spec := ⟨fun k => match k with | 0 => sI_rmay | 1 => sI_rall | _ => fun _ _ => 0, fun k => match k with | 0 => sB_rmay | 1 => sB_rall | _ => fun _ _ => false⟩
set_option maxRecDepth 100000 in
theorem sR_rjoin : funK ⟨tys_XbN, [sM_rmay 0, sM_rall 1]⟩ 200 Try.f29 [.agg [.int .u64 (.var 0), .int .u64 (.var 1), .int .i64 (.var 2), .int .i64 (.var 3)], .agg [.int .u64 (.var 4), .int .u64 (.var 5), .int .i64 (.var 6), .int .i64 (.var 7)]] ⟨[], [], [some .u64, some .u64, some .i64, some .i64, some .u64, some .u64, some .i64, some .i64]⟩ = sT_rjoin := by kernel_rfl
set_option maxRecDepth 100000 in
set_option maxHeartbeats 8000000 in
theorem sX_rjoin (a : Rg) (ha : Rg.ok a) (b : Rg) (hb : Rg.ok b) : (∀ w, Calls Try.prog 29 #[.agg #[.int .u64 a.ul, .int .u64 a.uh, .int .i64 a.sl, .int .i64 a.sh], .agg #[.int .u64 b.ul, .int .u64 b.uh, .int .i64 b.sl, .int .i64 b.sh]] w fun e w' => e = .returned (.agg #[.int .u64 (bjoin a b).ul, .int .u64 (bjoin a b).uh, .int .i64 (bjoin a b).sl, .int .i64 (bjoin a b).sh]) ∧ Ext w w') ∧ valIn (.agg #[.int .u64 (bjoin a b).ul, .int .u64 (bjoin a b).uh, .int .i64 (bjoin a b).sl, .int .i64 (bjoin a b).sh]) = true := by
  refine fun_calls (cx := ⟨tys_XbN, [sM_rmay 0, sM_rall 1]⟩) (sp := sP_rjoin) (t := sT_rjoin) (by kernel_rfl) tysok_XbN (List.forall_mem_cons.2 ⟨sK_rmay rfl rfl, List.forall_mem_cons.2 ⟨sK_rall rfl rfl, fun _ h => (by cases h)⟩⟩) (keys_of (by kernel_rfl)) Try.func29 ⟨fun n => ([a.ul, a.uh, a.sl, a.sh, b.ul, b.uh, b.sl, b.sh] : List Int).getD n 0, fun n => ([false, false, false, false, false, false, false, false] : List Bool).getD n false⟩ sR_rjoin (by kernel_rfl) ?_ rfl (by intro p hp; cases hp) ?_ ?_
  · intro n k hk
    have hlt : n < 8 := by
      rcases Nat.lt_or_ge n 8 with h | h
      · exact h
      · rw [List.getElem?_eq_none h] at hk; cases hk
    rcases (show n = 0 ∨ n = 1 ∨ n = 2 ∨ n = 3 ∨ n = 4 ∨ n = 5 ∨ n = 6 ∨ n = 7 by omega) with rfl | rfl | rfl | rfl | rfl | rfl | rfl | rfl
    · cases hk; exact ha.1
    · cases hk; exact ha.2.1
    · cases hk; exact ha.2.2.1
    · cases hk; exact ha.2.2.2
    · cases hk; exact hb.1
    · cases hk; exact hb.2.1
    · cases hk; exact hb.2.2.1
    · cases hk; exact hb.2.2.2
  · intro ρ hag
    have g0 : ρ.i 0 = a.ul := (hag 0 (by decide)).1.symm
    have g1 : ρ.i 1 = a.uh := (hag 1 (by decide)).1.symm
    have g2 : ρ.i 2 = a.sl := (hag 2 (by decide)).1.symm
    have g3 : ρ.i 3 = a.sh := (hag 3 (by decide)).1.symm
    have g4 : ρ.i 4 = b.ul := (hag 4 (by decide)).1.symm
    have g5 : ρ.i 5 = b.uh := (hag 5 (by decide)).1.symm
    have g6 : ρ.i 6 = b.sl := (hag 6 (by decide)).1.symm
    have g7 : ρ.i 7 = b.sh := (hag 7 (by decide)).1.symm
    show some ([.agg #[.int .u64 (ρ.i 0), .int .u64 (ρ.i 1), .int .i64 (ρ.i 2), .int .i64 (ρ.i 3)], .agg #[.int .u64 (ρ.i 4), .int .u64 (ρ.i 5), .int .i64 (ρ.i 6), .int .i64 (ρ.i 7)]] : List Value) = _
    rw [g0, g1, g2, g3, g4, g5, g6, g7]
  · intro ρ hag
    have g0 : ρ.i 0 = a.ul := (hag 0 (by decide)).1.symm
    have g1 : ρ.i 1 = a.uh := (hag 1 (by decide)).1.symm
    have g2 : ρ.i 2 = a.sl := (hag 2 (by decide)).1.symm
    have g3 : ρ.i 3 = a.sh := (hag 3 (by decide)).1.symm
    have g4 : ρ.i 4 = b.ul := (hag 4 (by decide)).1.symm
    have g5 : ρ.i 5 = b.uh := (hag 5 (by decide)).1.symm
    have g6 : ρ.i 6 = b.sl := (hag 6 (by decide)).1.symm
    have g7 : ρ.i 7 = b.sh := (hag 7 (by decide)).1.symm
    simp only [sT_rjoin, Tr.asks, eqs, E.I, E.B, E.L, V.den, C.den, denL, den0, den0L, Option.map_some, Nat.add_zero, Nat.reduceAdd, and_true, Rg.eta, g0, g1, g2, g3, g4, g5, g6, g7]
    simp only [sP_rjoin, b01, Pi.eta, Pu.eta, Rg.eta, sI_rmay, sB_rmay, sI_rall, sB_rall]
    intro e8
    (try simp only [e8, Pi.eta, Pu.eta, Rg.eta])
    (try clear e8)
    refine ⟨fun c0 => ?_, fun c0 => ?_⟩
    · skip
      intro e9
      (try simp only [e9, Pi.eta, Pu.eta, Rg.eta])
      (try clear e9)
      refine ⟨fun c1 => ?_, fun c1 => ?_⟩
      · skip
        all_goals
          refine congrArg some ?_
          (unfold bjoin; simp_all [bjoin0])
      · skip
        rintro ⟨e10, e11, e12, e13⟩
        (try simp only [e10, e11, e12, e13, Pi.eta, Pu.eta, Rg.eta])
        (try clear e10 e11 e12 e13)
        all_goals
          refine congrArg some ?_
          (unfold bjoin; simp_all [bjoin0])
    · skip
      rintro ⟨e9, e10, e11, e12⟩
      (try simp only [e9, e10, e11, e12, Pi.eta, Pu.eta, Rg.eta])
      (try clear e9 e10 e11 e12)
      all_goals
        refine congrArg some ?_
        (unfold bjoin; simp_all [bjoin0])
def sM_rjoin (key : Nat) : Sm := ⟨29, key, [(true, [.int .u64, .int .u64, .int .i64, .int .i64]), (true, [.int .u64, .int .u64, .int .i64, .int .i64])], [(true, [.int .u64, .int .u64, .int .i64, .int .i64])], false⟩
def sI_rjoin : Nat → List Int → Int
  | 0, [x0, x1, x2, x3, x4, x5, x6, x7] => (fun (a : Rg) (b : Rg) => (bjoin a b).ul) ⟨x0, x1, x2, x3⟩ ⟨x4, x5, x6, x7⟩
  | 1, [x0, x1, x2, x3, x4, x5, x6, x7] => (fun (a : Rg) (b : Rg) => (bjoin a b).uh) ⟨x0, x1, x2, x3⟩ ⟨x4, x5, x6, x7⟩
  | 2, [x0, x1, x2, x3, x4, x5, x6, x7] => (fun (a : Rg) (b : Rg) => (bjoin a b).sl) ⟨x0, x1, x2, x3⟩ ⟨x4, x5, x6, x7⟩
  | 3, [x0, x1, x2, x3, x4, x5, x6, x7] => (fun (a : Rg) (b : Rg) => (bjoin a b).sh) ⟨x0, x1, x2, x3⟩ ⟨x4, x5, x6, x7⟩
  | _, _ => 0
def sB_rjoin : Nat → List Int → Bool
  | _, _ => false
theorem sK_rjoin {sp : Spec} {key : Nat} (hI : sp.I key = sI_rjoin) (hB : sp.B key = sB_rjoin) : SmOk Try.prog sp (sM_rjoin key) := by
  refine SmOk.of (.inl ⟨run_enter Try.func29 (by kernel_rfl) (by kernel_rfl), fun xs vals h => ?_⟩) (.inr (.inl ⟨_, rfl⟩))
  obtain ⟨_, _, _, p1, h1, rfl⟩ := shA h
  obtain ⟨_, _, _, d1_0, p1_0, rfl⟩ := cksC p1
  obtain ⟨x0, rfl, rfl, gx0⟩ := ckI d1_0
  obtain ⟨_, _, _, d1_1, p1_1, rfl⟩ := cksC p1_0
  obtain ⟨x1, rfl, rfl, gx1⟩ := ckI d1_1
  obtain ⟨_, _, _, d1_2, p1_2, rfl⟩ := cksC p1_1
  obtain ⟨x2, rfl, rfl, gx2⟩ := ckI d1_2
  obtain ⟨_, _, _, d1_3, p1_3, rfl⟩ := cksC p1_2
  obtain ⟨x3, rfl, rfl, gx3⟩ := ckI d1_3
  obtain ⟨rfl, rfl⟩ := cksN p1_3
  obtain ⟨_, _, _, p2, h2, rfl⟩ := shA h1
  obtain ⟨_, _, _, d2_0, p2_0, rfl⟩ := cksC p2
  obtain ⟨x4, rfl, rfl, gx4⟩ := ckI d2_0
  obtain ⟨_, _, _, d2_1, p2_1, rfl⟩ := cksC p2_0
  obtain ⟨x5, rfl, rfl, gx5⟩ := ckI d2_1
  obtain ⟨_, _, _, d2_2, p2_2, rfl⟩ := cksC p2_1
  obtain ⟨x6, rfl, rfl, gx6⟩ := ckI d2_2
  obtain ⟨_, _, _, d2_3, p2_3, rfl⟩ := cksC p2_2
  obtain ⟨x7, rfl, rfl, gx7⟩ := ckI d2_3
  obtain ⟨rfl, rfl⟩ := cksN p2_3
  obtain ⟨rfl, rfl⟩ := shN h2
  refine ⟨_, sX_rjoin ⟨x0, x1, x2, x3⟩ ⟨gx0, gx1, gx2, gx3⟩ ⟨x4, x5, x6, x7⟩ ⟨gx4, gx5, gx6, gx7⟩, fun ρ v0 he => ?_⟩
  have he' : ρ.i (v0 + 0) = sp.I key 0 [x0, x1, x2, x3, x4, x5, x6, x7] ∧ ρ.i (v0 + 1) = sp.I key 1 [x0, x1, x2, x3, x4, x5, x6, x7] ∧ ρ.i (v0 + 2) = sp.I key 2 [x0, x1, x2, x3, x4, x5, x6, x7] ∧ ρ.i (v0 + 3) = sp.I key 3 [x0, x1, x2, x3, x4, x5, x6, x7] ∧ True := he
  simp only [hI, hB] at he'
  obtain ⟨e0, e1, e2, e3, -⟩ := he'
  show some (.agg #[.int .u64 (ρ.i (v0 + 0)), .int .u64 (ρ.i (v0 + 1)), .int .i64 (ρ.i (v0 + 2)), .int .i64 (ρ.i (v0 + 3))] : Value) = _
  rw [e0, e1, e2, e3]
  rfl
def sT_rmeet : Tr :=
(.call 0 [.bool] (.cons (.var 0) (.cons (.var 1) (.cons (.var 2) (.cons (.var 3) .nil)))) 8
 (.br (.bvar 8)
 (.call 0 [.bool] (.cons (.var 4) (.cons (.var 5) (.cons (.var 6) (.cons (.var 7) .nil)))) 9
  (.br (.bvar 9)
  (.call 2 [.int .u64, .int .u64, .int .i64, .int .i64, .bool] (.cons (.mx (.var 0) (.var 4)) (.cons (.mn (.var 1) (.var 5)) (.cons (.mx (.var 2) (.var 6)) (.cons (.mn (.var 3) (.var 7)) .nil)))) 10
   (.leaf (.tup [(true, [.int .u64 (.var 10), .int .u64 (.var 11), .int .i64 (.var 12), .int .i64 (.var 13)]), (false, [.bool (.bvar 14)])])))
  (.call 1 [.int .u64, .int .u64, .int .i64, .int .i64] .nil 10
   (.leaf (.tup [(true, [.int .u64 (.var 10), .int .u64 (.var 11), .int .i64 (.var 12), .int .i64 (.var 13)]), (false, [.bool (.tt false)])])))))
 (.call 1 [.int .u64, .int .u64, .int .i64, .int .i64] .nil 9
  (.leaf (.tup [(true, [.int .u64 (.var 9), .int .u64 (.var 10), .int .i64 (.var 11), .int .i64 (.var 12)]), (false, [.bool (.tt false)])])))))
def sP_rmeet : Spec := ⟨fun k => match k with | 0 => sI_rmay | 1 => sI_rall | 2 => sI_rnar | _ => fun _ _ => 0, fun k => match k with | 0 => sB_rmay | 1 => sB_rall | 2 => sB_rnar | _ => fun _ _ => false⟩
set_option maxRecDepth 100000 in
theorem sR_rmeet : funK ⟨tys_XbN, [sM_rmay 0, sM_rall 1, sM_rnar 2]⟩ 200 Try.f18 [.agg [.int .u64 (.var 0), .int .u64 (.var 1), .int .i64 (.var 2), .int .i64 (.var 3)], .agg [.int .u64 (.var 4), .int .u64 (.var 5), .int .i64 (.var 6), .int .i64 (.var 7)]] ⟨[], [], [some .u64, some .u64, some .i64, some .i64, some .u64, some .u64, some .i64, some .i64]⟩ = sT_rmeet := by kernel_rfl
set_option maxRecDepth 100000 in
set_option maxHeartbeats 8000000 in
theorem sX_rmeet (a : Rg) (ha : Rg.ok a) (b : Rg) (hb : Rg.ok b) : (∀ w, Calls Try.prog 18 #[.agg #[.int .u64 a.ul, .int .u64 a.uh, .int .i64 a.sl, .int .i64 a.sh], .agg #[.int .u64 b.ul, .int .u64 b.uh, .int .i64 b.sl, .int .i64 b.sh]] w fun e w' => e = .returned (.tuple #[.agg #[.int .u64 (bmeet a b).ul, .int .u64 (bmeet a b).uh, .int .i64 (bmeet a b).sl, .int .i64 (bmeet a b).sh], .bool (bmeets a b)]) ∧ Ext w w') ∧ valIn (.tuple #[.agg #[.int .u64 (bmeet a b).ul, .int .u64 (bmeet a b).uh, .int .i64 (bmeet a b).sl, .int .i64 (bmeet a b).sh], .bool (bmeets a b)]) = true := by
  refine fun_calls (cx := ⟨tys_XbN, [sM_rmay 0, sM_rall 1, sM_rnar 2]⟩) (sp := sP_rmeet) (t := sT_rmeet) (by kernel_rfl) tysok_XbN (List.forall_mem_cons.2 ⟨sK_rmay rfl rfl, List.forall_mem_cons.2 ⟨sK_rall rfl rfl, List.forall_mem_cons.2 ⟨sK_rnar rfl rfl, fun _ h => (by cases h)⟩⟩⟩) (keys_of (by kernel_rfl)) Try.func18 ⟨fun n => ([a.ul, a.uh, a.sl, a.sh, b.ul, b.uh, b.sl, b.sh] : List Int).getD n 0, fun n => ([false, false, false, false, false, false, false, false] : List Bool).getD n false⟩ sR_rmeet (by kernel_rfl) ?_ rfl (by intro p hp; cases hp) ?_ ?_
  · intro n k hk
    have hlt : n < 8 := by
      rcases Nat.lt_or_ge n 8 with h | h
      · exact h
      · rw [List.getElem?_eq_none h] at hk; cases hk
    rcases (show n = 0 ∨ n = 1 ∨ n = 2 ∨ n = 3 ∨ n = 4 ∨ n = 5 ∨ n = 6 ∨ n = 7 by omega) with rfl | rfl | rfl | rfl | rfl | rfl | rfl | rfl
    · cases hk; exact ha.1
    · cases hk; exact ha.2.1
    · cases hk; exact ha.2.2.1
    · cases hk; exact ha.2.2.2
    · cases hk; exact hb.1
    · cases hk; exact hb.2.1
    · cases hk; exact hb.2.2.1
    · cases hk; exact hb.2.2.2
  · intro ρ hag
    have g0 : ρ.i 0 = a.ul := (hag 0 (by decide)).1.symm
    have g1 : ρ.i 1 = a.uh := (hag 1 (by decide)).1.symm
    have g2 : ρ.i 2 = a.sl := (hag 2 (by decide)).1.symm
    have g3 : ρ.i 3 = a.sh := (hag 3 (by decide)).1.symm
    have g4 : ρ.i 4 = b.ul := (hag 4 (by decide)).1.symm
    have g5 : ρ.i 5 = b.uh := (hag 5 (by decide)).1.symm
    have g6 : ρ.i 6 = b.sl := (hag 6 (by decide)).1.symm
    have g7 : ρ.i 7 = b.sh := (hag 7 (by decide)).1.symm
    show some ([.agg #[.int .u64 (ρ.i 0), .int .u64 (ρ.i 1), .int .i64 (ρ.i 2), .int .i64 (ρ.i 3)], .agg #[.int .u64 (ρ.i 4), .int .u64 (ρ.i 5), .int .i64 (ρ.i 6), .int .i64 (ρ.i 7)]] : List Value) = _
    rw [g0, g1, g2, g3, g4, g5, g6, g7]
  · intro ρ hag
    have g0 : ρ.i 0 = a.ul := (hag 0 (by decide)).1.symm
    have g1 : ρ.i 1 = a.uh := (hag 1 (by decide)).1.symm
    have g2 : ρ.i 2 = a.sl := (hag 2 (by decide)).1.symm
    have g3 : ρ.i 3 = a.sh := (hag 3 (by decide)).1.symm
    have g4 : ρ.i 4 = b.ul := (hag 4 (by decide)).1.symm
    have g5 : ρ.i 5 = b.uh := (hag 5 (by decide)).1.symm
    have g6 : ρ.i 6 = b.sl := (hag 6 (by decide)).1.symm
    have g7 : ρ.i 7 = b.sh := (hag 7 (by decide)).1.symm
    simp only [sT_rmeet, Tr.asks, eqs, E.I, E.B, E.L, V.den, C.den, denL, den0, den0L, Option.map_some, Nat.add_zero, Nat.reduceAdd, and_true, Rg.eta, g0, g1, g2, g3, g4, g5, g6, g7]
    simp only [sP_rmeet, b01, Pi.eta, Pu.eta, Rg.eta, sI_rmay, sB_rmay, sI_rall, sB_rall, sI_rnar, sB_rnar]
    intro e8
    (try simp only [e8, Pi.eta, Pu.eta, Rg.eta])
    (try clear e8)
    refine ⟨fun c0 => ?_, fun c0 => ?_⟩
    · skip
      intro e9
      (try simp only [e9, Pi.eta, Pu.eta, Rg.eta])
      (try clear e9)
      refine ⟨fun c1 => ?_, fun c1 => ?_⟩
      · skip
        rintro ⟨e10, e11, e12, e13, e14⟩
        (try simp only [e10, e11, e12, e13, e14, Pi.eta, Pu.eta, Rg.eta])
        (try clear e10 e11 e12 e13 e14)
        all_goals
          refine congrArg some ?_
          (unfold bmeet bmeets; simp_all [bmeet0, bnar_if])
      · skip
        rintro ⟨e10, e11, e12, e13⟩
        (try simp only [e10, e11, e12, e13, Pi.eta, Pu.eta, Rg.eta])
        (try clear e10 e11 e12 e13)
        all_goals
          refine congrArg some ?_
          (unfold bmeet bmeets; simp_all [bmeet0, bnar_if])
    · skip
      rintro ⟨e9, e10, e11, e12⟩
      (try simp only [e9, e10, e11, e12, Pi.eta, Pu.eta, Rg.eta])
      (try clear e9 e10 e11 e12)
      all_goals
        refine congrArg some ?_
        (unfold bmeet bmeets; simp_all [bmeet0, bnar_if])
def sM_rmeet (key : Nat) : Sm := ⟨18, key, [(true, [.int .u64, .int .u64, .int .i64, .int .i64]), (true, [.int .u64, .int .u64, .int .i64, .int .i64])], [(true, [.int .u64, .int .u64, .int .i64, .int .i64]), (false, [.bool])], true⟩
def sI_rmeet : Nat → List Int → Int
  | 0, [x0, x1, x2, x3, x4, x5, x6, x7] => (fun (a : Rg) (b : Rg) => (bmeet a b).ul) ⟨x0, x1, x2, x3⟩ ⟨x4, x5, x6, x7⟩
  | 1, [x0, x1, x2, x3, x4, x5, x6, x7] => (fun (a : Rg) (b : Rg) => (bmeet a b).uh) ⟨x0, x1, x2, x3⟩ ⟨x4, x5, x6, x7⟩
  | 2, [x0, x1, x2, x3, x4, x5, x6, x7] => (fun (a : Rg) (b : Rg) => (bmeet a b).sl) ⟨x0, x1, x2, x3⟩ ⟨x4, x5, x6, x7⟩
  | 3, [x0, x1, x2, x3, x4, x5, x6, x7] => (fun (a : Rg) (b : Rg) => (bmeet a b).sh) ⟨x0, x1, x2, x3⟩ ⟨x4, x5, x6, x7⟩
  | _, _ => 0
def sB_rmeet : Nat → List Int → Bool
  | 4, [x0, x1, x2, x3, x4, x5, x6, x7] => (fun (a : Rg) (b : Rg) => bmeets a b) ⟨x0, x1, x2, x3⟩ ⟨x4, x5, x6, x7⟩
  | _, _ => false
theorem sK_rmeet {sp : Spec} {key : Nat} (hI : sp.I key = sI_rmeet) (hB : sp.B key = sB_rmeet) : SmOk Try.prog sp (sM_rmeet key) := by
  refine SmOk.of (.inl ⟨run_enter Try.func18 (by kernel_rfl) (by kernel_rfl), fun xs vals h => ?_⟩) (.inl rfl)
  obtain ⟨_, _, _, p1, h1, rfl⟩ := shA h
  obtain ⟨_, _, _, d1_0, p1_0, rfl⟩ := cksC p1
  obtain ⟨x0, rfl, rfl, gx0⟩ := ckI d1_0
  obtain ⟨_, _, _, d1_1, p1_1, rfl⟩ := cksC p1_0
  obtain ⟨x1, rfl, rfl, gx1⟩ := ckI d1_1
  obtain ⟨_, _, _, d1_2, p1_2, rfl⟩ := cksC p1_1
  obtain ⟨x2, rfl, rfl, gx2⟩ := ckI d1_2
  obtain ⟨_, _, _, d1_3, p1_3, rfl⟩ := cksC p1_2
  obtain ⟨x3, rfl, rfl, gx3⟩ := ckI d1_3
  obtain ⟨rfl, rfl⟩ := cksN p1_3
  obtain ⟨_, _, _, p2, h2, rfl⟩ := shA h1
  obtain ⟨_, _, _, d2_0, p2_0, rfl⟩ := cksC p2
  obtain ⟨x4, rfl, rfl, gx4⟩ := ckI d2_0
  obtain ⟨_, _, _, d2_1, p2_1, rfl⟩ := cksC p2_0
  obtain ⟨x5, rfl, rfl, gx5⟩ := ckI d2_1
  obtain ⟨_, _, _, d2_2, p2_2, rfl⟩ := cksC p2_1
  obtain ⟨x6, rfl, rfl, gx6⟩ := ckI d2_2
  obtain ⟨_, _, _, d2_3, p2_3, rfl⟩ := cksC p2_2
  obtain ⟨x7, rfl, rfl, gx7⟩ := ckI d2_3
  obtain ⟨rfl, rfl⟩ := cksN p2_3
  obtain ⟨rfl, rfl⟩ := shN h2
  refine ⟨_, sX_rmeet ⟨x0, x1, x2, x3⟩ ⟨gx0, gx1, gx2, gx3⟩ ⟨x4, x5, x6, x7⟩ ⟨gx4, gx5, gx6, gx7⟩, fun ρ v0 he => ?_⟩
  have he' : ρ.i (v0 + 0) = sp.I key 0 [x0, x1, x2, x3, x4, x5, x6, x7] ∧ ρ.i (v0 + 1) = sp.I key 1 [x0, x1, x2, x3, x4, x5, x6, x7] ∧ ρ.i (v0 + 2) = sp.I key 2 [x0, x1, x2, x3, x4, x5, x6, x7] ∧ ρ.i (v0 + 3) = sp.I key 3 [x0, x1, x2, x3, x4, x5, x6, x7] ∧ ρ.b (v0 + 4) = sp.B key 4 [x0, x1, x2, x3, x4, x5, x6, x7] ∧ True := he
  simp only [hI, hB] at he'
  obtain ⟨e0, e1, e2, e3, e4, -⟩ := he'
  show some (.tuple #[.agg #[.int .u64 (ρ.i (v0 + 0)), .int .u64 (ρ.i (v0 + 1)), .int .i64 (ρ.i (v0 + 2)), .int .i64 (ρ.i (v0 + 3))], .bool (ρ.b (v0 + 4))] : Value) = _
  rw [e0, e1, e2, e3, e4]
  rfl
def sT_rin : Tr :=
(.call 0 [.bool] (.cons (.var 0) (.cons (.var 1) (.cons (.var 2) (.cons (.var 3) .nil)))) 8
 (.br (.bvar 8)
 (.call 0 [.bool] (.cons (.var 4) (.cons (.var 5) (.cons (.var 6) (.cons (.var 7) .nil)))) 9
  (.br (.bvar 9)
  (.br (.lt (.var 0) (.var 4))
   (.leaf (.one (.bool (.tt false))))
   (.br (.lt (.var 5) (.var 1))
    (.leaf (.one (.bool (.tt false))))
    (.br (.lt (.var 2) (.var 6))
     (.leaf (.one (.bool (.tt false))))
     (.leaf (.one (.bool (.not (.lt (.var 7) (.var 3)))))))))
  (.leaf (.one (.bool (.tt false))))))
 (.leaf (.one (.bool (.tt false))))))
def sP_rin : Spec := ⟨fun k => match k with | 0 => sI_rmay | _ => fun _ _ => 0, fun k => match k with | 0 => sB_rmay | _ => fun _ _ => false⟩
set_option maxRecDepth 100000 in
theorem sR_rin : funK ⟨tys_XbN, [sM_rmay 0]⟩ 200 Try.f31 [.agg [.int .u64 (.var 0), .int .u64 (.var 1), .int .i64 (.var 2), .int .i64 (.var 3)], .agg [.int .u64 (.var 4), .int .u64 (.var 5), .int .i64 (.var 6), .int .i64 (.var 7)]] ⟨[], [], [some .u64, some .u64, some .i64, some .i64, some .u64, some .u64, some .i64, some .i64]⟩ = sT_rin := by kernel_rfl
set_option maxRecDepth 100000 in
set_option maxHeartbeats 8000000 in
theorem sX_rin (a : Rg) (ha : Rg.ok a) (b : Rg) (hb : Rg.ok b) : (∀ w, Calls Try.prog 31 #[.agg #[.int .u64 a.ul, .int .u64 a.uh, .int .i64 a.sl, .int .i64 a.sh], .agg #[.int .u64 b.ul, .int .u64 b.uh, .int .i64 b.sl, .int .i64 b.sh]] w fun e w' => e = .returned (.bool (bin a b)) ∧ Ext w w') ∧ valIn (.bool (bin a b)) = true := by
  refine fun_calls (cx := ⟨tys_XbN, [sM_rmay 0]⟩) (sp := sP_rin) (t := sT_rin) (by kernel_rfl) tysok_XbN (List.forall_mem_cons.2 ⟨sK_rmay rfl rfl, fun _ h => (by cases h)⟩) (keys_of (by kernel_rfl)) Try.func31 ⟨fun n => ([a.ul, a.uh, a.sl, a.sh, b.ul, b.uh, b.sl, b.sh] : List Int).getD n 0, fun n => ([false, false, false, false, false, false, false, false] : List Bool).getD n false⟩ sR_rin (by kernel_rfl) ?_ rfl (by intro p hp; cases hp) ?_ ?_
  · intro n k hk
    have hlt : n < 8 := by
      rcases Nat.lt_or_ge n 8 with h | h
      · exact h
      · rw [List.getElem?_eq_none h] at hk; cases hk
    rcases (show n = 0 ∨ n = 1 ∨ n = 2 ∨ n = 3 ∨ n = 4 ∨ n = 5 ∨ n = 6 ∨ n = 7 by omega) with rfl | rfl | rfl | rfl | rfl | rfl | rfl | rfl
    · cases hk; exact ha.1
    · cases hk; exact ha.2.1
    · cases hk; exact ha.2.2.1
    · cases hk; exact ha.2.2.2
    · cases hk; exact hb.1
    · cases hk; exact hb.2.1
    · cases hk; exact hb.2.2.1
    · cases hk; exact hb.2.2.2
  · intro ρ hag
    have g0 : ρ.i 0 = a.ul := (hag 0 (by decide)).1.symm
    have g1 : ρ.i 1 = a.uh := (hag 1 (by decide)).1.symm
    have g2 : ρ.i 2 = a.sl := (hag 2 (by decide)).1.symm
    have g3 : ρ.i 3 = a.sh := (hag 3 (by decide)).1.symm
    have g4 : ρ.i 4 = b.ul := (hag 4 (by decide)).1.symm
    have g5 : ρ.i 5 = b.uh := (hag 5 (by decide)).1.symm
    have g6 : ρ.i 6 = b.sl := (hag 6 (by decide)).1.symm
    have g7 : ρ.i 7 = b.sh := (hag 7 (by decide)).1.symm
    show some ([.agg #[.int .u64 (ρ.i 0), .int .u64 (ρ.i 1), .int .i64 (ρ.i 2), .int .i64 (ρ.i 3)], .agg #[.int .u64 (ρ.i 4), .int .u64 (ρ.i 5), .int .i64 (ρ.i 6), .int .i64 (ρ.i 7)]] : List Value) = _
    rw [g0, g1, g2, g3, g4, g5, g6, g7]
  · intro ρ hag
    have g0 : ρ.i 0 = a.ul := (hag 0 (by decide)).1.symm
    have g1 : ρ.i 1 = a.uh := (hag 1 (by decide)).1.symm
    have g2 : ρ.i 2 = a.sl := (hag 2 (by decide)).1.symm
    have g3 : ρ.i 3 = a.sh := (hag 3 (by decide)).1.symm
    have g4 : ρ.i 4 = b.ul := (hag 4 (by decide)).1.symm
    have g5 : ρ.i 5 = b.uh := (hag 5 (by decide)).1.symm
    have g6 : ρ.i 6 = b.sl := (hag 6 (by decide)).1.symm
    have g7 : ρ.i 7 = b.sh := (hag 7 (by decide)).1.symm
    simp only [sT_rin, Tr.asks, eqs, E.I, E.B, E.L, V.den, C.den, denL, den0, den0L, Option.map_some, Nat.add_zero, Nat.reduceAdd, and_true, Rg.eta, g0, g1, g2, g3, g4, g5, g6, g7]
    simp only [sP_rin, b01, Pi.eta, Pu.eta, Rg.eta, sI_rmay, sB_rmay]
    intro e8
    (try simp only [e8, Pi.eta, Pu.eta, Rg.eta])
    (try clear e8)
    refine ⟨fun c0 => ?_, fun c0 => ?_⟩
    · skip
      intro e9
      (try simp only [e9, Pi.eta, Pu.eta, Rg.eta])
      (try clear e9)
      refine ⟨fun c1 => ?_, fun c1 => ?_⟩
      · skip
        refine ⟨fun c2 => ?_, fun c2 => ?_⟩
        · skip
          all_goals
            refine congrArg some ?_
            (refine congrArg Value.bool ?_; rw [Bool.eq_iff_iff, bin_iff]; simp_all [not_lt_le]; try omega)
        · skip
          refine ⟨fun c3 => ?_, fun c3 => ?_⟩
          · skip
            all_goals
              refine congrArg some ?_
              (refine congrArg Value.bool ?_; rw [Bool.eq_iff_iff, bin_iff]; simp_all [not_lt_le]; try omega)
          · skip
            refine ⟨fun c4 => ?_, fun c4 => ?_⟩
            · skip
              all_goals
                refine congrArg some ?_
                (refine congrArg Value.bool ?_; rw [Bool.eq_iff_iff, bin_iff]; simp_all [not_lt_le]; try omega)
            · skip
              all_goals
                refine congrArg some ?_
                (refine congrArg Value.bool ?_; rw [Bool.eq_iff_iff, bin_iff]; simp_all [not_lt_le]; try omega)
      · skip
        all_goals
          refine congrArg some ?_
          (refine congrArg Value.bool ?_; rw [Bool.eq_iff_iff, bin_iff]; simp_all [not_lt_le]; try omega)
    · skip
      all_goals
        refine congrArg some ?_
        (refine congrArg Value.bool ?_; rw [Bool.eq_iff_iff, bin_iff]; simp_all [not_lt_le]; try omega)
def sM_rin (key : Nat) : Sm := ⟨31, key, [(true, [.int .u64, .int .u64, .int .i64, .int .i64]), (true, [.int .u64, .int .u64, .int .i64, .int .i64])], [(false, [.bool])], false⟩
def sI_rin : Nat → List Int → Int
  | _, _ => 0
def sB_rin : Nat → List Int → Bool
  | 0, [x0, x1, x2, x3, x4, x5, x6, x7] => (fun (a : Rg) (b : Rg) => bin a b) ⟨x0, x1, x2, x3⟩ ⟨x4, x5, x6, x7⟩
  | _, _ => false
theorem sK_rin {sp : Spec} {key : Nat} (hI : sp.I key = sI_rin) (hB : sp.B key = sB_rin) : SmOk Try.prog sp (sM_rin key) := by
  refine SmOk.of (.inl ⟨run_enter Try.func31 (by kernel_rfl) (by kernel_rfl), fun xs vals h => ?_⟩) (.inr (.inr ⟨_, rfl⟩))
  obtain ⟨_, _, _, p1, h1, rfl⟩ := shA h
  obtain ⟨_, _, _, d1_0, p1_0, rfl⟩ := cksC p1
  obtain ⟨x0, rfl, rfl, gx0⟩ := ckI d1_0
  obtain ⟨_, _, _, d1_1, p1_1, rfl⟩ := cksC p1_0
  obtain ⟨x1, rfl, rfl, gx1⟩ := ckI d1_1
  obtain ⟨_, _, _, d1_2, p1_2, rfl⟩ := cksC p1_1
  obtain ⟨x2, rfl, rfl, gx2⟩ := ckI d1_2
  obtain ⟨_, _, _, d1_3, p1_3, rfl⟩ := cksC p1_2
  obtain ⟨x3, rfl, rfl, gx3⟩ := ckI d1_3
  obtain ⟨rfl, rfl⟩ := cksN p1_3
  obtain ⟨_, _, _, p2, h2, rfl⟩ := shA h1
  obtain ⟨_, _, _, d2_0, p2_0, rfl⟩ := cksC p2
  obtain ⟨x4, rfl, rfl, gx4⟩ := ckI d2_0
  obtain ⟨_, _, _, d2_1, p2_1, rfl⟩ := cksC p2_0
  obtain ⟨x5, rfl, rfl, gx5⟩ := ckI d2_1
  obtain ⟨_, _, _, d2_2, p2_2, rfl⟩ := cksC p2_1
  obtain ⟨x6, rfl, rfl, gx6⟩ := ckI d2_2
  obtain ⟨_, _, _, d2_3, p2_3, rfl⟩ := cksC p2_2
  obtain ⟨x7, rfl, rfl, gx7⟩ := ckI d2_3
  obtain ⟨rfl, rfl⟩ := cksN p2_3
  obtain ⟨rfl, rfl⟩ := shN h2
  refine ⟨_, sX_rin ⟨x0, x1, x2, x3⟩ ⟨gx0, gx1, gx2, gx3⟩ ⟨x4, x5, x6, x7⟩ ⟨gx4, gx5, gx6, gx7⟩, fun ρ v0 he => ?_⟩
  have he' : ρ.b (v0 + 0) = sp.B key 0 [x0, x1, x2, x3, x4, x5, x6, x7] ∧ True := he
  simp only [hI, hB] at he'
  obtain ⟨e0, -⟩ := he'
  show some (.bool (ρ.b (v0 + 0)) : Value) = _
  rw [e0]
  rfl
def sT_rplus : Tr :=
(.br (.beq (.lt (.var 0) (.lit 0)) (.lt (.var 1) (.lit 0)))
 (.leaf (.tup [(false, [.int .i64 (.bin .add .i64 (.var 0) (.var 1))]), (false, [.bool (.beq (.lt (.bin .add .i64 (.var 0) (.var 1)) (.lit 0)) (.lt (.var 0) (.lit 0)))])]))
 (.leaf (.tup [(false, [.int .i64 (.bin .add .i64 (.var 0) (.var 1))]), (false, [.bool (.tt true)])])))
def sP_rplus : Spec := ⟨fun k => match k with | _ => fun _ _ => 0, fun k => match k with | _ => fun _ _ => false⟩
set_option maxRecDepth 100000 in
theorem sR_rplus : funK ⟨tys_XbN, []⟩ 200 Try.f75 [.one (.int .i64 (.var 0)), .one (.int .i64 (.var 1))] ⟨[], [], [some .i64, some .i64]⟩ = sT_rplus := by kernel_rfl
set_option maxRecDepth 100000 in
set_option maxHeartbeats 8000000 in
theorem sX_rplus (a : Int) (ha : inK .i64 a = true) (b : Int) (hb : inK .i64 b = true) : (∀ w, Calls Try.prog 75 #[.int .i64 a, .int .i64 b] w fun e w' => e = .returned (.tuple #[.int .i64 (IntKind.i64.wrap (a + b)), .bool (decide (-9223372036854775808 ≤ a + b ∧ a + b ≤ 9223372036854775807))]) ∧ Ext w w') ∧ valIn (.tuple #[.int .i64 (IntKind.i64.wrap (a + b)), .bool (decide (-9223372036854775808 ≤ a + b ∧ a + b ≤ 9223372036854775807))]) = true := by
  refine fun_calls (cx := ⟨tys_XbN, []⟩) (sp := sP_rplus) (t := sT_rplus) (by kernel_rfl) tysok_XbN (fun _ h => (by cases h)) (keys_of (by kernel_rfl)) Try.func75 ⟨fun n => ([a, b] : List Int).getD n 0, fun n => ([false, false] : List Bool).getD n false⟩ sR_rplus (by kernel_rfl) ?_ rfl (by intro p hp; cases hp) ?_ ?_
  · intro n k hk
    have hlt : n < 2 := by
      rcases Nat.lt_or_ge n 2 with h | h
      · exact h
      · rw [List.getElem?_eq_none h] at hk; cases hk
    rcases (show n = 0 ∨ n = 1 by omega) with rfl | rfl
    · cases hk; exact ha
    · cases hk; exact hb
  · intro ρ hag
    have g0 : ρ.i 0 = a := (hag 0 (by decide)).1.symm
    have g1 : ρ.i 1 = b := (hag 1 (by decide)).1.symm
    show some ([.int .i64 (ρ.i 0), .int .i64 (ρ.i 1)] : List Value) = _
    rw [g0, g1]
  · intro ρ hag
    have g0 : ρ.i 0 = a := (hag 0 (by decide)).1.symm
    have g1 : ρ.i 1 = b := (hag 1 (by decide)).1.symm
    simp only [sT_rplus, Tr.asks, eqs, E.I, E.B, E.L, V.den, C.den, denL, den0, den0L, Option.map_some, Nat.add_zero, Nat.reduceAdd, and_true, g0, g1]
    refine ⟨fun c0 => ?_, fun c0 => ?_⟩
    · skip
      all_goals
        refine congrArg some ?_
        (rw [rplus_same ha hb c0]; try rfl)
    · skip
      all_goals
        refine congrArg some ?_
        (rw [← rplus_diff ha hb c0]; try rfl)
def sM_rplus (key : Nat) : Sm := ⟨75, key, [(false, [.int .i64]), (false, [.int .i64])], [(false, [.int .i64]), (false, [.bool])], true⟩
def sI_rplus : Nat → List Int → Int
  | 0, [x0, x1] => (fun (a : Int) (b : Int) => IntKind.i64.wrap (a + b)) x0 x1
  | _, _ => 0
def sB_rplus : Nat → List Int → Bool
  | 1, [x0, x1] => (fun (a : Int) (b : Int) => decide (-9223372036854775808 ≤ a + b ∧ a + b ≤ 9223372036854775807)) x0 x1
  | _, _ => false
theorem sK_rplus {sp : Spec} {key : Nat} (hI : sp.I key = sI_rplus) (hB : sp.B key = sB_rplus) : SmOk Try.prog sp (sM_rplus key) := by
  refine SmOk.of (.inl ⟨run_enter Try.func75 (by kernel_rfl) (by kernel_rfl), fun xs vals h => ?_⟩) (.inl rfl)
  obtain ⟨_, _, _, d1, h1, rfl⟩ := shO h
  obtain ⟨x0, rfl, rfl, gx0⟩ := ckI d1
  obtain ⟨_, _, _, d2, h2, rfl⟩ := shO h1
  obtain ⟨x1, rfl, rfl, gx1⟩ := ckI d2
  obtain ⟨rfl, rfl⟩ := shN h2
  refine ⟨_, sX_rplus x0 gx0 x1 gx1, fun ρ v0 he => ?_⟩
  have he' : ρ.i (v0 + 0) = sp.I key 0 [x0, x1] ∧ ρ.b (v0 + 1) = sp.B key 1 [x0, x1] ∧ True := he
  simp only [hI, hB] at he'
  obtain ⟨e0, e1, -⟩ := he'
  show some (.tuple #[.int .i64 (ρ.i (v0 + 0)), .bool (ρ.b (v0 + 1))] : Value) = _
  rw [e0, e1]
  rfl
def sT_rminus : Tr :=
(.br (.beq (.lt (.var 0) (.lit 0)) (.lt (.var 1) (.lit 0)))
 (.leaf (.tup [(false, [.int .i64 (.bin .sub .i64 (.var 0) (.var 1))]), (false, [.bool (.tt true)])]))
 (.leaf (.tup [(false, [.int .i64 (.bin .sub .i64 (.var 0) (.var 1))]), (false, [.bool (.beq (.lt (.bin .sub .i64 (.var 0) (.var 1)) (.lit 0)) (.lt (.var 0) (.lit 0)))])])))
def sP_rminus : Spec := ⟨fun k => match k with | _ => fun _ _ => 0, fun k => match k with | _ => fun _ _ => false⟩
set_option maxRecDepth 100000 in
theorem sR_rminus : funK ⟨tys_XbN, []⟩ 200 Try.f76 [.one (.int .i64 (.var 0)), .one (.int .i64 (.var 1))] ⟨[], [], [some .i64, some .i64]⟩ = sT_rminus := by kernel_rfl
set_option maxRecDepth 100000 in
set_option maxHeartbeats 8000000 in
theorem sX_rminus (a : Int) (ha : inK .i64 a = true) (b : Int) (hb : inK .i64 b = true) : (∀ w, Calls Try.prog 76 #[.int .i64 a, .int .i64 b] w fun e w' => e = .returned (.tuple #[.int .i64 (IntKind.i64.wrap (a - b)), .bool (decide (-9223372036854775808 ≤ a - b ∧ a - b ≤ 9223372036854775807))]) ∧ Ext w w') ∧ valIn (.tuple #[.int .i64 (IntKind.i64.wrap (a - b)), .bool (decide (-9223372036854775808 ≤ a - b ∧ a - b ≤ 9223372036854775807))]) = true := by
  refine fun_calls (cx := ⟨tys_XbN, []⟩) (sp := sP_rminus) (t := sT_rminus) (by kernel_rfl) tysok_XbN (fun _ h => (by cases h)) (keys_of (by kernel_rfl)) Try.func76 ⟨fun n => ([a, b] : List Int).getD n 0, fun n => ([false, false] : List Bool).getD n false⟩ sR_rminus (by kernel_rfl) ?_ rfl (by intro p hp; cases hp) ?_ ?_
  · intro n k hk
    have hlt : n < 2 := by
      rcases Nat.lt_or_ge n 2 with h | h
      · exact h
      · rw [List.getElem?_eq_none h] at hk; cases hk
    rcases (show n = 0 ∨ n = 1 by omega) with rfl | rfl
    · cases hk; exact ha
    · cases hk; exact hb
  · intro ρ hag
    have g0 : ρ.i 0 = a := (hag 0 (by decide)).1.symm
    have g1 : ρ.i 1 = b := (hag 1 (by decide)).1.symm
    show some ([.int .i64 (ρ.i 0), .int .i64 (ρ.i 1)] : List Value) = _
    rw [g0, g1]
  · intro ρ hag
    have g0 : ρ.i 0 = a := (hag 0 (by decide)).1.symm
    have g1 : ρ.i 1 = b := (hag 1 (by decide)).1.symm
    simp only [sT_rminus, Tr.asks, eqs, E.I, E.B, E.L, V.den, C.den, denL, den0, den0L, Option.map_some, Nat.add_zero, Nat.reduceAdd, and_true, g0, g1]
    refine ⟨fun c0 => ?_, fun c0 => ?_⟩
    · skip
      all_goals
        refine congrArg some ?_
        (rw [← rminus_same ha hb c0]; try rfl)
    · skip
      all_goals
        refine congrArg some ?_
        (rw [rminus_diff ha hb c0]; try rfl)
def sM_rminus (key : Nat) : Sm := ⟨76, key, [(false, [.int .i64]), (false, [.int .i64])], [(false, [.int .i64]), (false, [.bool])], true⟩
def sI_rminus : Nat → List Int → Int
  | 0, [x0, x1] => (fun (a : Int) (b : Int) => IntKind.i64.wrap (a - b)) x0 x1
  | _, _ => 0
def sB_rminus : Nat → List Int → Bool
  | 1, [x0, x1] => (fun (a : Int) (b : Int) => decide (-9223372036854775808 ≤ a - b ∧ a - b ≤ 9223372036854775807)) x0 x1
  | _, _ => false
theorem sK_rminus {sp : Spec} {key : Nat} (hI : sp.I key = sI_rminus) (hB : sp.B key = sB_rminus) : SmOk Try.prog sp (sM_rminus key) := by
  refine SmOk.of (.inl ⟨run_enter Try.func76 (by kernel_rfl) (by kernel_rfl), fun xs vals h => ?_⟩) (.inl rfl)
  obtain ⟨_, _, _, d1, h1, rfl⟩ := shO h
  obtain ⟨x0, rfl, rfl, gx0⟩ := ckI d1
  obtain ⟨_, _, _, d2, h2, rfl⟩ := shO h1
  obtain ⟨x1, rfl, rfl, gx1⟩ := ckI d2
  obtain ⟨rfl, rfl⟩ := shN h2
  refine ⟨_, sX_rminus x0 gx0 x1 gx1, fun ρ v0 he => ?_⟩
  have he' : ρ.i (v0 + 0) = sp.I key 0 [x0, x1] ∧ ρ.b (v0 + 1) = sp.B key 1 [x0, x1] ∧ True := he
  simp only [hI, hB] at he'
  obtain ⟨e0, e1, -⟩ := he'
  show some (.tuple #[.int .i64 (ρ.i (v0 + 0)), .bool (ρ.b (v0 + 1))] : Value) = _
  rw [e0, e1]
  rfl
def sT_rfill : Tr :=
(.br (.lt (.lit 0) (.var 0))
 (.br (.lt (.lit 1) (.var 0))
  (.br (.lt (.lit 3) (.var 0))
   (.br (.lt (.lit 7) (.var 0))
    (.br (.lt (.lit 15) (.var 0))
     (.br (.lt (.lit 31) (.var 0))
      (.br (.lt (.lit 63) (.var 0))
       (.br (.lt (.lit 127) (.var 0))
        (.br (.lt (.lit 255) (.var 0))
         (.br (.lt (.lit 511) (.var 0))
          (.br (.lt (.lit 1023) (.var 0))
           (.br (.lt (.lit 2047) (.var 0))
            (.br (.lt (.lit 4095) (.var 0))
             (.br (.lt (.lit 8191) (.var 0))
              (.br (.lt (.lit 16383) (.var 0))
               (.br (.lt (.lit 32767) (.var 0))
                (.br (.lt (.lit 65535) (.var 0))
                 (.br (.lt (.lit 131071) (.var 0))
                  (.br (.lt (.lit 262143) (.var 0))
                   (.br (.lt (.lit 524287) (.var 0))
                    (.br (.lt (.lit 1048575) (.var 0))
                     (.br (.lt (.lit 2097151) (.var 0))
                      (.br (.lt (.lit 4194303) (.var 0))
                       (.br (.lt (.lit 8388607) (.var 0))
                        (.br (.lt (.lit 16777215) (.var 0))
                         (.br (.lt (.lit 33554431) (.var 0))
                          (.br (.lt (.lit 67108863) (.var 0))
                           (.br (.lt (.lit 134217727) (.var 0))
                            (.br (.lt (.lit 268435455) (.var 0))
                             (.br (.lt (.lit 536870911) (.var 0))
                              (.br (.lt (.lit 1073741823) (.var 0))
                               (.br (.lt (.lit 2147483647) (.var 0))
                                (.br (.lt (.lit 4294967295) (.var 0))
                                 (.br (.lt (.lit 8589934591) (.var 0))
                                  (.br (.lt (.lit 17179869183) (.var 0))
                                   (.br (.lt (.lit 34359738367) (.var 0))
                                    (.br (.lt (.lit 68719476735) (.var 0))
                                     (.br (.lt (.lit 137438953471) (.var 0))
                                      (.br (.lt (.lit 274877906943) (.var 0))
                                       (.br (.lt (.lit 549755813887) (.var 0))
                                        (.br (.lt (.lit 1099511627775) (.var 0))
                                         (.br (.lt (.lit 2199023255551) (.var 0))
                                          (.br (.lt (.lit 4398046511103) (.var 0))
                                           (.br (.lt (.lit 8796093022207) (.var 0))
                                            (.br (.lt (.lit 17592186044415) (.var 0))
                                             (.br (.lt (.lit 35184372088831) (.var 0))
                                              (.br (.lt (.lit 70368744177663) (.var 0))
                                               (.br (.lt (.lit 140737488355327) (.var 0))
                                                (.br (.lt (.lit 281474976710655) (.var 0))
                                                 (.br (.lt (.lit 562949953421311) (.var 0))
                                                  (.br (.lt (.lit 1125899906842623) (.var 0))
                                                   (.br (.lt (.lit 2251799813685247) (.var 0))
                                                    (.br (.lt (.lit 4503599627370495) (.var 0))
                                                     (.br (.lt (.lit 9007199254740991) (.var 0))
                                                      (.br (.lt (.lit 18014398509481983) (.var 0))
                                                       (.br (.lt (.lit 36028797018963967) (.var 0))
                                                        (.br (.lt (.lit 72057594037927935) (.var 0))
                                                         (.br (.lt (.lit 144115188075855871) (.var 0))
                                                          (.br (.lt (.lit 288230376151711743) (.var 0))
                                                           (.br (.lt (.lit 576460752303423487) (.var 0))
                                                            (.br (.lt (.lit 1152921504606846975) (.var 0))
                                                             (.br (.lt (.lit 2305843009213693951) (.var 0))
                                                              (.br (.lt (.lit 4611686018427387903) (.var 0))
                                                               (.br (.lt (.lit 9223372036854775807) (.var 0))
                                                                (.leaf (.one (.int .u64 (.lit 18446744073709551615))))
                                                                (.leaf (.one (.int .u64 (.lit 9223372036854775807)))))
                                                               (.leaf (.one (.int .u64 (.lit 4611686018427387903)))))
                                                              (.leaf (.one (.int .u64 (.lit 2305843009213693951)))))
                                                             (.leaf (.one (.int .u64 (.lit 1152921504606846975)))))
                                                            (.leaf (.one (.int .u64 (.lit 576460752303423487)))))
                                                           (.leaf (.one (.int .u64 (.lit 288230376151711743)))))
                                                          (.leaf (.one (.int .u64 (.lit 144115188075855871)))))
                                                         (.leaf (.one (.int .u64 (.lit 72057594037927935)))))
                                                        (.leaf (.one (.int .u64 (.lit 36028797018963967)))))
                                                       (.leaf (.one (.int .u64 (.lit 18014398509481983)))))
                                                      (.leaf (.one (.int .u64 (.lit 9007199254740991)))))
                                                     (.leaf (.one (.int .u64 (.lit 4503599627370495)))))
                                                    (.leaf (.one (.int .u64 (.lit 2251799813685247)))))
                                                   (.leaf (.one (.int .u64 (.lit 1125899906842623)))))
                                                  (.leaf (.one (.int .u64 (.lit 562949953421311)))))
                                                 (.leaf (.one (.int .u64 (.lit 281474976710655)))))
                                                (.leaf (.one (.int .u64 (.lit 140737488355327)))))
                                               (.leaf (.one (.int .u64 (.lit 70368744177663)))))
                                              (.leaf (.one (.int .u64 (.lit 35184372088831)))))
                                             (.leaf (.one (.int .u64 (.lit 17592186044415)))))
                                            (.leaf (.one (.int .u64 (.lit 8796093022207)))))
                                           (.leaf (.one (.int .u64 (.lit 4398046511103)))))
                                          (.leaf (.one (.int .u64 (.lit 2199023255551)))))
                                         (.leaf (.one (.int .u64 (.lit 1099511627775)))))
                                        (.leaf (.one (.int .u64 (.lit 549755813887)))))
                                       (.leaf (.one (.int .u64 (.lit 274877906943)))))
                                      (.leaf (.one (.int .u64 (.lit 137438953471)))))
                                     (.leaf (.one (.int .u64 (.lit 68719476735)))))
                                    (.leaf (.one (.int .u64 (.lit 34359738367)))))
                                   (.leaf (.one (.int .u64 (.lit 17179869183)))))
                                  (.leaf (.one (.int .u64 (.lit 8589934591)))))
                                 (.leaf (.one (.int .u64 (.lit 4294967295)))))
                                (.leaf (.one (.int .u64 (.lit 2147483647)))))
                               (.leaf (.one (.int .u64 (.lit 1073741823)))))
                              (.leaf (.one (.int .u64 (.lit 536870911)))))
                             (.leaf (.one (.int .u64 (.lit 268435455)))))
                            (.leaf (.one (.int .u64 (.lit 134217727)))))
                           (.leaf (.one (.int .u64 (.lit 67108863)))))
                          (.leaf (.one (.int .u64 (.lit 33554431)))))
                         (.leaf (.one (.int .u64 (.lit 16777215)))))
                        (.leaf (.one (.int .u64 (.lit 8388607)))))
                       (.leaf (.one (.int .u64 (.lit 4194303)))))
                      (.leaf (.one (.int .u64 (.lit 2097151)))))
                     (.leaf (.one (.int .u64 (.lit 1048575)))))
                    (.leaf (.one (.int .u64 (.lit 524287)))))
                   (.leaf (.one (.int .u64 (.lit 262143)))))
                  (.leaf (.one (.int .u64 (.lit 131071)))))
                 (.leaf (.one (.int .u64 (.lit 65535)))))
                (.leaf (.one (.int .u64 (.lit 32767)))))
               (.leaf (.one (.int .u64 (.lit 16383)))))
              (.leaf (.one (.int .u64 (.lit 8191)))))
             (.leaf (.one (.int .u64 (.lit 4095)))))
            (.leaf (.one (.int .u64 (.lit 2047)))))
           (.leaf (.one (.int .u64 (.lit 1023)))))
          (.leaf (.one (.int .u64 (.lit 511)))))
         (.leaf (.one (.int .u64 (.lit 255)))))
        (.leaf (.one (.int .u64 (.lit 127)))))
       (.leaf (.one (.int .u64 (.lit 63)))))
      (.leaf (.one (.int .u64 (.lit 31)))))
     (.leaf (.one (.int .u64 (.lit 15)))))
    (.leaf (.one (.int .u64 (.lit 7)))))
   (.leaf (.one (.int .u64 (.lit 3)))))
  (.leaf (.one (.int .u64 (.lit 1)))))
 (.leaf (.one (.int .u64 (.lit 0)))))
def sP_rfill : Spec := ⟨fun k => match k with | _ => fun _ _ => 0, fun k => match k with | _ => fun _ _ => false⟩
set_option maxRecDepth 100000 in
theorem sR_rfill : funK ⟨tys_XbN, []⟩ 400 Try.f77 [.one (.int .u64 (.var 0))] ⟨[], [], [some .u64]⟩ = sT_rfill := by kernel_rfl
set_option maxRecDepth 100000 in
set_option maxHeartbeats 8000000 in
theorem sX_rfill (v : Int) (hv : inK .u64 v = true) : (∀ w, Calls Try.prog 77 #[.int .u64 v] w fun e w' => e = .returned (.int .u64 (bfill v)) ∧ Ext w w') ∧ valIn (.int .u64 (bfill v)) = true := by
  refine fun_calls (cx := ⟨tys_XbN, []⟩) (sp := sP_rfill) (t := sT_rfill) (by kernel_rfl) tysok_XbN (fun _ h => (by cases h)) (keys_of (by kernel_rfl)) Try.func77 ⟨fun n => ([v] : List Int).getD n 0, fun n => ([false] : List Bool).getD n false⟩ sR_rfill (by kernel_rfl) ?_ rfl (by intro p hp; cases hp) ?_ ?_
  · intro n k hk
    have hlt : n < 1 := by
      rcases Nat.lt_or_ge n 1 with h | h
      · exact h
      · rw [List.getElem?_eq_none h] at hk; cases hk
    rcases (show n = 0 by omega) with rfl
    · cases hk; exact hv
  · intro ρ hag
    have g0 : ρ.i 0 = v := (hag 0 (by decide)).1.symm
    show some ([.int .u64 (ρ.i 0)] : List Value) = _
    rw [g0]
  · intro ρ hag
    have g0 : ρ.i 0 = v := (hag 0 (by decide)).1.symm
    simp only [sT_rfill, Tr.asks, eqs, E.I, E.B, E.L, V.den, C.den, denL, den0, den0L, Option.map_some, Nat.add_zero, Nat.reduceAdd, and_true, g0]
    refine ⟨fun c0 => ?_, fun c0 => ?_⟩
    · skip
      refine ⟨fun c1 => ?_, fun c1 => ?_⟩
      · skip
        refine ⟨fun c2 => ?_, fun c2 => ?_⟩
        · skip
          refine ⟨fun c3 => ?_, fun c3 => ?_⟩
          · skip
            refine ⟨fun c4 => ?_, fun c4 => ?_⟩
            · skip
              refine ⟨fun c5 => ?_, fun c5 => ?_⟩
              · skip
                refine ⟨fun c6 => ?_, fun c6 => ?_⟩
                · skip
                  refine ⟨fun c7 => ?_, fun c7 => ?_⟩
                  · skip
                    refine ⟨fun c8 => ?_, fun c8 => ?_⟩
                    · skip
                      refine ⟨fun c9 => ?_, fun c9 => ?_⟩
                      · skip
                        refine ⟨fun c10 => ?_, fun c10 => ?_⟩
                        · skip
                          refine ⟨fun c11 => ?_, fun c11 => ?_⟩
                          · skip
                            refine ⟨fun c12 => ?_, fun c12 => ?_⟩
                            · skip
                              refine ⟨fun c13 => ?_, fun c13 => ?_⟩
                              · skip
                                refine ⟨fun c14 => ?_, fun c14 => ?_⟩
                                · skip
                                  refine ⟨fun c15 => ?_, fun c15 => ?_⟩
                                  · skip
                                    refine ⟨fun c16 => ?_, fun c16 => ?_⟩
                                    · skip
                                      refine ⟨fun c17 => ?_, fun c17 => ?_⟩
                                      · skip
                                        refine ⟨fun c18 => ?_, fun c18 => ?_⟩
                                        · skip
                                          refine ⟨fun c19 => ?_, fun c19 => ?_⟩
                                          · skip
                                            refine ⟨fun c20 => ?_, fun c20 => ?_⟩
                                            · skip
                                              refine ⟨fun c21 => ?_, fun c21 => ?_⟩
                                              · skip
                                                refine ⟨fun c22 => ?_, fun c22 => ?_⟩
                                                · skip
                                                  refine ⟨fun c23 => ?_, fun c23 => ?_⟩
                                                  · skip
                                                    refine ⟨fun c24 => ?_, fun c24 => ?_⟩
                                                    · skip
                                                      refine ⟨fun c25 => ?_, fun c25 => ?_⟩
                                                      · skip
                                                        refine ⟨fun c26 => ?_, fun c26 => ?_⟩
                                                        · skip
                                                          refine ⟨fun c27 => ?_, fun c27 => ?_⟩
                                                          · skip
                                                            refine ⟨fun c28 => ?_, fun c28 => ?_⟩
                                                            · skip
                                                              refine ⟨fun c29 => ?_, fun c29 => ?_⟩
                                                              · skip
                                                                refine ⟨fun c30 => ?_, fun c30 => ?_⟩
                                                                · skip
                                                                  refine ⟨fun c31 => ?_, fun c31 => ?_⟩
                                                                  · skip
                                                                    refine ⟨fun c32 => ?_, fun c32 => ?_⟩
                                                                    · skip
                                                                      refine ⟨fun c33 => ?_, fun c33 => ?_⟩
                                                                      · skip
                                                                        refine ⟨fun c34 => ?_, fun c34 => ?_⟩
                                                                        · skip
                                                                          refine ⟨fun c35 => ?_, fun c35 => ?_⟩
                                                                          · skip
                                                                            refine ⟨fun c36 => ?_, fun c36 => ?_⟩
                                                                            · skip
                                                                              refine ⟨fun c37 => ?_, fun c37 => ?_⟩
                                                                              · skip
                                                                                refine ⟨fun c38 => ?_, fun c38 => ?_⟩
                                                                                · skip
                                                                                  refine ⟨fun c39 => ?_, fun c39 => ?_⟩
                                                                                  · skip
                                                                                    refine ⟨fun c40 => ?_, fun c40 => ?_⟩
                                                                                    · skip
                                                                                      refine ⟨fun c41 => ?_, fun c41 => ?_⟩
                                                                                      · skip
                                                                                        refine ⟨fun c42 => ?_, fun c42 => ?_⟩
                                                                                        · skip
                                                                                          refine ⟨fun c43 => ?_, fun c43 => ?_⟩
                                                                                          · skip
                                                                                            refine ⟨fun c44 => ?_, fun c44 => ?_⟩
                                                                                            · skip
                                                                                              refine ⟨fun c45 => ?_, fun c45 => ?_⟩
                                                                                              · skip
                                                                                                refine ⟨fun c46 => ?_, fun c46 => ?_⟩
                                                                                                · skip
                                                                                                  refine ⟨fun c47 => ?_, fun c47 => ?_⟩
                                                                                                  · skip
                                                                                                    refine ⟨fun c48 => ?_, fun c48 => ?_⟩
                                                                                                    · skip
                                                                                                      refine ⟨fun c49 => ?_, fun c49 => ?_⟩
                                                                                                      · skip
                                                                                                        refine ⟨fun c50 => ?_, fun c50 => ?_⟩
                                                                                                        · skip
                                                                                                          refine ⟨fun c51 => ?_, fun c51 => ?_⟩
                                                                                                          · skip
                                                                                                            refine ⟨fun c52 => ?_, fun c52 => ?_⟩
                                                                                                            · skip
                                                                                                              refine ⟨fun c53 => ?_, fun c53 => ?_⟩
                                                                                                              · skip
                                                                                                                refine ⟨fun c54 => ?_, fun c54 => ?_⟩
                                                                                                                · skip
                                                                                                                  refine ⟨fun c55 => ?_, fun c55 => ?_⟩
                                                                                                                  · skip
                                                                                                                    refine ⟨fun c56 => ?_, fun c56 => ?_⟩
                                                                                                                    · skip
                                                                                                                      refine ⟨fun c57 => ?_, fun c57 => ?_⟩
                                                                                                                      · skip
                                                                                                                        refine ⟨fun c58 => ?_, fun c58 => ?_⟩
                                                                                                                        · skip
                                                                                                                          refine ⟨fun c59 => ?_, fun c59 => ?_⟩
                                                                                                                          · skip
                                                                                                                            refine ⟨fun c60 => ?_, fun c60 => ?_⟩
                                                                                                                            · skip
                                                                                                                              refine ⟨fun c61 => ?_, fun c61 => ?_⟩
                                                                                                                              · skip
                                                                                                                                refine ⟨fun c62 => ?_, fun c62 => ?_⟩
                                                                                                                                · skip
                                                                                                                                  refine ⟨fun c63 => ?_, fun c63 => ?_⟩
                                                                                                                                  · skip
                                                                                                                                    all_goals
                                                                                                                                      refine congrArg some ?_
                                                                                                                                      exact congrArg (Value.int .u64) (rf 63 (by decide) (by decide) (Int.add_one_le_of_lt (of_decide_eq_true c63)) (inK_u64 hv).2)
                                                                                                                                  · skip
                                                                                                                                    all_goals
                                                                                                                                      refine congrArg some ?_
                                                                                                                                      exact congrArg (Value.int .u64) (rf 62 (by decide) (by decide) (Int.add_one_le_of_lt (of_decide_eq_true c62)) (Int.not_lt.1 (of_decide_eq_false c63)))
                                                                                                                                · skip
                                                                                                                                  all_goals
                                                                                                                                    refine congrArg some ?_
                                                                                                                                    exact congrArg (Value.int .u64) (rf 61 (by decide) (by decide) (Int.add_one_le_of_lt (of_decide_eq_true c61)) (Int.not_lt.1 (of_decide_eq_false c62)))
                                                                                                                              · skip
                                                                                                                                all_goals
                                                                                                                                  refine congrArg some ?_
                                                                                                                                  exact congrArg (Value.int .u64) (rf 60 (by decide) (by decide) (Int.add_one_le_of_lt (of_decide_eq_true c60)) (Int.not_lt.1 (of_decide_eq_false c61)))
                                                                                                                            · skip
                                                                                                                              all_goals
                                                                                                                                refine congrArg some ?_
                                                                                                                                exact congrArg (Value.int .u64) (rf 59 (by decide) (by decide) (Int.add_one_le_of_lt (of_decide_eq_true c59)) (Int.not_lt.1 (of_decide_eq_false c60)))
                                                                                                                          · skip
                                                                                                                            all_goals
                                                                                                                              refine congrArg some ?_
                                                                                                                              exact congrArg (Value.int .u64) (rf 58 (by decide) (by decide) (Int.add_one_le_of_lt (of_decide_eq_true c58)) (Int.not_lt.1 (of_decide_eq_false c59)))
                                                                                                                        · skip
                                                                                                                          all_goals
                                                                                                                            refine congrArg some ?_
                                                                                                                            exact congrArg (Value.int .u64) (rf 57 (by decide) (by decide) (Int.add_one_le_of_lt (of_decide_eq_true c57)) (Int.not_lt.1 (of_decide_eq_false c58)))
                                                                                                                      · skip
                                                                                                                        all_goals
                                                                                                                          refine congrArg some ?_
                                                                                                                          exact congrArg (Value.int .u64) (rf 56 (by decide) (by decide) (Int.add_one_le_of_lt (of_decide_eq_true c56)) (Int.not_lt.1 (of_decide_eq_false c57)))
                                                                                                                    · skip
                                                                                                                      all_goals
                                                                                                                        refine congrArg some ?_
                                                                                                                        exact congrArg (Value.int .u64) (rf 55 (by decide) (by decide) (Int.add_one_le_of_lt (of_decide_eq_true c55)) (Int.not_lt.1 (of_decide_eq_false c56)))
                                                                                                                  · skip
                                                                                                                    all_goals
                                                                                                                      refine congrArg some ?_
                                                                                                                      exact congrArg (Value.int .u64) (rf 54 (by decide) (by decide) (Int.add_one_le_of_lt (of_decide_eq_true c54)) (Int.not_lt.1 (of_decide_eq_false c55)))
                                                                                                                · skip
                                                                                                                  all_goals
                                                                                                                    refine congrArg some ?_
                                                                                                                    exact congrArg (Value.int .u64) (rf 53 (by decide) (by decide) (Int.add_one_le_of_lt (of_decide_eq_true c53)) (Int.not_lt.1 (of_decide_eq_false c54)))
                                                                                                              · skip
                                                                                                                all_goals
                                                                                                                  refine congrArg some ?_
                                                                                                                  exact congrArg (Value.int .u64) (rf 52 (by decide) (by decide) (Int.add_one_le_of_lt (of_decide_eq_true c52)) (Int.not_lt.1 (of_decide_eq_false c53)))
                                                                                                            · skip
                                                                                                              all_goals
                                                                                                                refine congrArg some ?_
                                                                                                                exact congrArg (Value.int .u64) (rf 51 (by decide) (by decide) (Int.add_one_le_of_lt (of_decide_eq_true c51)) (Int.not_lt.1 (of_decide_eq_false c52)))
                                                                                                          · skip
                                                                                                            all_goals
                                                                                                              refine congrArg some ?_
                                                                                                              exact congrArg (Value.int .u64) (rf 50 (by decide) (by decide) (Int.add_one_le_of_lt (of_decide_eq_true c50)) (Int.not_lt.1 (of_decide_eq_false c51)))
                                                                                                        · skip
                                                                                                          all_goals
                                                                                                            refine congrArg some ?_
                                                                                                            exact congrArg (Value.int .u64) (rf 49 (by decide) (by decide) (Int.add_one_le_of_lt (of_decide_eq_true c49)) (Int.not_lt.1 (of_decide_eq_false c50)))
                                                                                                      · skip
                                                                                                        all_goals
                                                                                                          refine congrArg some ?_
                                                                                                          exact congrArg (Value.int .u64) (rf 48 (by decide) (by decide) (Int.add_one_le_of_lt (of_decide_eq_true c48)) (Int.not_lt.1 (of_decide_eq_false c49)))
                                                                                                    · skip
                                                                                                      all_goals
                                                                                                        refine congrArg some ?_
                                                                                                        exact congrArg (Value.int .u64) (rf 47 (by decide) (by decide) (Int.add_one_le_of_lt (of_decide_eq_true c47)) (Int.not_lt.1 (of_decide_eq_false c48)))
                                                                                                  · skip
                                                                                                    all_goals
                                                                                                      refine congrArg some ?_
                                                                                                      exact congrArg (Value.int .u64) (rf 46 (by decide) (by decide) (Int.add_one_le_of_lt (of_decide_eq_true c46)) (Int.not_lt.1 (of_decide_eq_false c47)))
                                                                                                · skip
                                                                                                  all_goals
                                                                                                    refine congrArg some ?_
                                                                                                    exact congrArg (Value.int .u64) (rf 45 (by decide) (by decide) (Int.add_one_le_of_lt (of_decide_eq_true c45)) (Int.not_lt.1 (of_decide_eq_false c46)))
                                                                                              · skip
                                                                                                all_goals
                                                                                                  refine congrArg some ?_
                                                                                                  exact congrArg (Value.int .u64) (rf 44 (by decide) (by decide) (Int.add_one_le_of_lt (of_decide_eq_true c44)) (Int.not_lt.1 (of_decide_eq_false c45)))
                                                                                            · skip
                                                                                              all_goals
                                                                                                refine congrArg some ?_
                                                                                                exact congrArg (Value.int .u64) (rf 43 (by decide) (by decide) (Int.add_one_le_of_lt (of_decide_eq_true c43)) (Int.not_lt.1 (of_decide_eq_false c44)))
                                                                                          · skip
                                                                                            all_goals
                                                                                              refine congrArg some ?_
                                                                                              exact congrArg (Value.int .u64) (rf 42 (by decide) (by decide) (Int.add_one_le_of_lt (of_decide_eq_true c42)) (Int.not_lt.1 (of_decide_eq_false c43)))
                                                                                        · skip
                                                                                          all_goals
                                                                                            refine congrArg some ?_
                                                                                            exact congrArg (Value.int .u64) (rf 41 (by decide) (by decide) (Int.add_one_le_of_lt (of_decide_eq_true c41)) (Int.not_lt.1 (of_decide_eq_false c42)))
                                                                                      · skip
                                                                                        all_goals
                                                                                          refine congrArg some ?_
                                                                                          exact congrArg (Value.int .u64) (rf 40 (by decide) (by decide) (Int.add_one_le_of_lt (of_decide_eq_true c40)) (Int.not_lt.1 (of_decide_eq_false c41)))
                                                                                    · skip
                                                                                      all_goals
                                                                                        refine congrArg some ?_
                                                                                        exact congrArg (Value.int .u64) (rf 39 (by decide) (by decide) (Int.add_one_le_of_lt (of_decide_eq_true c39)) (Int.not_lt.1 (of_decide_eq_false c40)))
                                                                                  · skip
                                                                                    all_goals
                                                                                      refine congrArg some ?_
                                                                                      exact congrArg (Value.int .u64) (rf 38 (by decide) (by decide) (Int.add_one_le_of_lt (of_decide_eq_true c38)) (Int.not_lt.1 (of_decide_eq_false c39)))
                                                                                · skip
                                                                                  all_goals
                                                                                    refine congrArg some ?_
                                                                                    exact congrArg (Value.int .u64) (rf 37 (by decide) (by decide) (Int.add_one_le_of_lt (of_decide_eq_true c37)) (Int.not_lt.1 (of_decide_eq_false c38)))
                                                                              · skip
                                                                                all_goals
                                                                                  refine congrArg some ?_
                                                                                  exact congrArg (Value.int .u64) (rf 36 (by decide) (by decide) (Int.add_one_le_of_lt (of_decide_eq_true c36)) (Int.not_lt.1 (of_decide_eq_false c37)))
                                                                            · skip
                                                                              all_goals
                                                                                refine congrArg some ?_
                                                                                exact congrArg (Value.int .u64) (rf 35 (by decide) (by decide) (Int.add_one_le_of_lt (of_decide_eq_true c35)) (Int.not_lt.1 (of_decide_eq_false c36)))
                                                                          · skip
                                                                            all_goals
                                                                              refine congrArg some ?_
                                                                              exact congrArg (Value.int .u64) (rf 34 (by decide) (by decide) (Int.add_one_le_of_lt (of_decide_eq_true c34)) (Int.not_lt.1 (of_decide_eq_false c35)))
                                                                        · skip
                                                                          all_goals
                                                                            refine congrArg some ?_
                                                                            exact congrArg (Value.int .u64) (rf 33 (by decide) (by decide) (Int.add_one_le_of_lt (of_decide_eq_true c33)) (Int.not_lt.1 (of_decide_eq_false c34)))
                                                                      · skip
                                                                        all_goals
                                                                          refine congrArg some ?_
                                                                          exact congrArg (Value.int .u64) (rf 32 (by decide) (by decide) (Int.add_one_le_of_lt (of_decide_eq_true c32)) (Int.not_lt.1 (of_decide_eq_false c33)))
                                                                    · skip
                                                                      all_goals
                                                                        refine congrArg some ?_
                                                                        exact congrArg (Value.int .u64) (rf 31 (by decide) (by decide) (Int.add_one_le_of_lt (of_decide_eq_true c31)) (Int.not_lt.1 (of_decide_eq_false c32)))
                                                                  · skip
                                                                    all_goals
                                                                      refine congrArg some ?_
                                                                      exact congrArg (Value.int .u64) (rf 30 (by decide) (by decide) (Int.add_one_le_of_lt (of_decide_eq_true c30)) (Int.not_lt.1 (of_decide_eq_false c31)))
                                                                · skip
                                                                  all_goals
                                                                    refine congrArg some ?_
                                                                    exact congrArg (Value.int .u64) (rf 29 (by decide) (by decide) (Int.add_one_le_of_lt (of_decide_eq_true c29)) (Int.not_lt.1 (of_decide_eq_false c30)))
                                                              · skip
                                                                all_goals
                                                                  refine congrArg some ?_
                                                                  exact congrArg (Value.int .u64) (rf 28 (by decide) (by decide) (Int.add_one_le_of_lt (of_decide_eq_true c28)) (Int.not_lt.1 (of_decide_eq_false c29)))
                                                            · skip
                                                              all_goals
                                                                refine congrArg some ?_
                                                                exact congrArg (Value.int .u64) (rf 27 (by decide) (by decide) (Int.add_one_le_of_lt (of_decide_eq_true c27)) (Int.not_lt.1 (of_decide_eq_false c28)))
                                                          · skip
                                                            all_goals
                                                              refine congrArg some ?_
                                                              exact congrArg (Value.int .u64) (rf 26 (by decide) (by decide) (Int.add_one_le_of_lt (of_decide_eq_true c26)) (Int.not_lt.1 (of_decide_eq_false c27)))
                                                        · skip
                                                          all_goals
                                                            refine congrArg some ?_
                                                            exact congrArg (Value.int .u64) (rf 25 (by decide) (by decide) (Int.add_one_le_of_lt (of_decide_eq_true c25)) (Int.not_lt.1 (of_decide_eq_false c26)))
                                                      · skip
                                                        all_goals
                                                          refine congrArg some ?_
                                                          exact congrArg (Value.int .u64) (rf 24 (by decide) (by decide) (Int.add_one_le_of_lt (of_decide_eq_true c24)) (Int.not_lt.1 (of_decide_eq_false c25)))
                                                    · skip
                                                      all_goals
                                                        refine congrArg some ?_
                                                        exact congrArg (Value.int .u64) (rf 23 (by decide) (by decide) (Int.add_one_le_of_lt (of_decide_eq_true c23)) (Int.not_lt.1 (of_decide_eq_false c24)))
                                                  · skip
                                                    all_goals
                                                      refine congrArg some ?_
                                                      exact congrArg (Value.int .u64) (rf 22 (by decide) (by decide) (Int.add_one_le_of_lt (of_decide_eq_true c22)) (Int.not_lt.1 (of_decide_eq_false c23)))
                                                · skip
                                                  all_goals
                                                    refine congrArg some ?_
                                                    exact congrArg (Value.int .u64) (rf 21 (by decide) (by decide) (Int.add_one_le_of_lt (of_decide_eq_true c21)) (Int.not_lt.1 (of_decide_eq_false c22)))
                                              · skip
                                                all_goals
                                                  refine congrArg some ?_
                                                  exact congrArg (Value.int .u64) (rf 20 (by decide) (by decide) (Int.add_one_le_of_lt (of_decide_eq_true c20)) (Int.not_lt.1 (of_decide_eq_false c21)))
                                            · skip
                                              all_goals
                                                refine congrArg some ?_
                                                exact congrArg (Value.int .u64) (rf 19 (by decide) (by decide) (Int.add_one_le_of_lt (of_decide_eq_true c19)) (Int.not_lt.1 (of_decide_eq_false c20)))
                                          · skip
                                            all_goals
                                              refine congrArg some ?_
                                              exact congrArg (Value.int .u64) (rf 18 (by decide) (by decide) (Int.add_one_le_of_lt (of_decide_eq_true c18)) (Int.not_lt.1 (of_decide_eq_false c19)))
                                        · skip
                                          all_goals
                                            refine congrArg some ?_
                                            exact congrArg (Value.int .u64) (rf 17 (by decide) (by decide) (Int.add_one_le_of_lt (of_decide_eq_true c17)) (Int.not_lt.1 (of_decide_eq_false c18)))
                                      · skip
                                        all_goals
                                          refine congrArg some ?_
                                          exact congrArg (Value.int .u64) (rf 16 (by decide) (by decide) (Int.add_one_le_of_lt (of_decide_eq_true c16)) (Int.not_lt.1 (of_decide_eq_false c17)))
                                    · skip
                                      all_goals
                                        refine congrArg some ?_
                                        exact congrArg (Value.int .u64) (rf 15 (by decide) (by decide) (Int.add_one_le_of_lt (of_decide_eq_true c15)) (Int.not_lt.1 (of_decide_eq_false c16)))
                                  · skip
                                    all_goals
                                      refine congrArg some ?_
                                      exact congrArg (Value.int .u64) (rf 14 (by decide) (by decide) (Int.add_one_le_of_lt (of_decide_eq_true c14)) (Int.not_lt.1 (of_decide_eq_false c15)))
                                · skip
                                  all_goals
                                    refine congrArg some ?_
                                    exact congrArg (Value.int .u64) (rf 13 (by decide) (by decide) (Int.add_one_le_of_lt (of_decide_eq_true c13)) (Int.not_lt.1 (of_decide_eq_false c14)))
                              · skip
                                all_goals
                                  refine congrArg some ?_
                                  exact congrArg (Value.int .u64) (rf 12 (by decide) (by decide) (Int.add_one_le_of_lt (of_decide_eq_true c12)) (Int.not_lt.1 (of_decide_eq_false c13)))
                            · skip
                              all_goals
                                refine congrArg some ?_
                                exact congrArg (Value.int .u64) (rf 11 (by decide) (by decide) (Int.add_one_le_of_lt (of_decide_eq_true c11)) (Int.not_lt.1 (of_decide_eq_false c12)))
                          · skip
                            all_goals
                              refine congrArg some ?_
                              exact congrArg (Value.int .u64) (rf 10 (by decide) (by decide) (Int.add_one_le_of_lt (of_decide_eq_true c10)) (Int.not_lt.1 (of_decide_eq_false c11)))
                        · skip
                          all_goals
                            refine congrArg some ?_
                            exact congrArg (Value.int .u64) (rf 9 (by decide) (by decide) (Int.add_one_le_of_lt (of_decide_eq_true c9)) (Int.not_lt.1 (of_decide_eq_false c10)))
                      · skip
                        all_goals
                          refine congrArg some ?_
                          exact congrArg (Value.int .u64) (rf 8 (by decide) (by decide) (Int.add_one_le_of_lt (of_decide_eq_true c8)) (Int.not_lt.1 (of_decide_eq_false c9)))
                    · skip
                      all_goals
                        refine congrArg some ?_
                        exact congrArg (Value.int .u64) (rf 7 (by decide) (by decide) (Int.add_one_le_of_lt (of_decide_eq_true c7)) (Int.not_lt.1 (of_decide_eq_false c8)))
                  · skip
                    all_goals
                      refine congrArg some ?_
                      exact congrArg (Value.int .u64) (rf 6 (by decide) (by decide) (Int.add_one_le_of_lt (of_decide_eq_true c6)) (Int.not_lt.1 (of_decide_eq_false c7)))
                · skip
                  all_goals
                    refine congrArg some ?_
                    exact congrArg (Value.int .u64) (rf 5 (by decide) (by decide) (Int.add_one_le_of_lt (of_decide_eq_true c5)) (Int.not_lt.1 (of_decide_eq_false c6)))
              · skip
                all_goals
                  refine congrArg some ?_
                  exact congrArg (Value.int .u64) (rf 4 (by decide) (by decide) (Int.add_one_le_of_lt (of_decide_eq_true c4)) (Int.not_lt.1 (of_decide_eq_false c5)))
            · skip
              all_goals
                refine congrArg some ?_
                exact congrArg (Value.int .u64) (rf 3 (by decide) (by decide) (Int.add_one_le_of_lt (of_decide_eq_true c3)) (Int.not_lt.1 (of_decide_eq_false c4)))
          · skip
            all_goals
              refine congrArg some ?_
              exact congrArg (Value.int .u64) (rf 2 (by decide) (by decide) (Int.add_one_le_of_lt (of_decide_eq_true c2)) (Int.not_lt.1 (of_decide_eq_false c3)))
        · skip
          all_goals
            refine congrArg some ?_
            exact congrArg (Value.int .u64) (rf 1 (by decide) (by decide) (Int.add_one_le_of_lt (of_decide_eq_true c1)) (Int.not_lt.1 (of_decide_eq_false c2)))
      · skip
        all_goals
          refine congrArg some ?_
          exact congrArg (Value.int .u64) (rf 0 (by decide) (by decide) (Int.add_one_le_of_lt (of_decide_eq_true c0)) (Int.not_lt.1 (of_decide_eq_false c1)))
    · skip
      all_goals
        refine congrArg some ?_
        exact congrArg (Value.int .u64) (rf0 (inK_u64 hv).1 (Int.not_lt.1 (of_decide_eq_false c0)))
def sM_rfill (key : Nat) : Sm := ⟨77, key, [(false, [.int .u64])], [(false, [.int .u64])], false⟩
def sI_rfill : Nat → List Int → Int
  | 0, [x0] => (fun (v : Int) => bfill v) x0
  | _, _ => 0
def sB_rfill : Nat → List Int → Bool
  | _, _ => false
theorem sK_rfill {sp : Spec} {key : Nat} (hI : sp.I key = sI_rfill) (hB : sp.B key = sB_rfill) : SmOk Try.prog sp (sM_rfill key) := by
  refine SmOk.of (.inl ⟨run_enter Try.func77 (by kernel_rfl) (by kernel_rfl), fun xs vals h => ?_⟩) (.inr (.inr ⟨_, rfl⟩))
  obtain ⟨_, _, _, d1, h1, rfl⟩ := shO h
  obtain ⟨x0, rfl, rfl, gx0⟩ := ckI d1
  obtain ⟨rfl, rfl⟩ := shN h1
  refine ⟨_, sX_rfill x0 gx0, fun ρ v0 he => ?_⟩
  have he' : ρ.i (v0 + 0) = sp.I key 0 [x0] ∧ True := he
  simp only [hI, hB] at he'
  obtain ⟨e0, -⟩ := he'
  show some (.int .u64 (ρ.i (v0 + 0)) : Value) = _
  rw [e0]
  rfl
def sT_rlow : Tr :=
(.call 0 [.bool] (.cons (.var 0) (.cons (.var 1) (.cons (.var 2) (.cons (.var 3) .nil)))) 4
 (.br (.bvar 4)
 (.br (.lt (.var 1) (.lit 4294967296))
  (.leaf (.agg [.int .u64 (.var 0), .int .u64 (.var 1), .int .i64 (.var 2), .int .i64 (.var 3)]))
  (.call 1 [.int .u64, .int .u64, .int .i64, .int .i64] (.cons (.lit 0) (.cons (.lit 4294967295) (.cons (.lit (-9223372036854775808)) (.cons (.lit 9223372036854775807) .nil)))) 5
   (.leaf (.agg [.int .u64 (.var 5), .int .u64 (.var 6), .int .i64 (.var 7), .int .i64 (.var 8)]))))
 (.call 1 [.int .u64, .int .u64, .int .i64, .int .i64] (.cons (.lit 0) (.cons (.lit 4294967295) (.cons (.lit (-9223372036854775808)) (.cons (.lit 9223372036854775807) .nil)))) 5
  (.leaf (.agg [.int .u64 (.var 5), .int .u64 (.var 6), .int .i64 (.var 7), .int .i64 (.var 8)])))))
def sP_rlow : Spec := ⟨fun k => match k with | 0 => sI_rmay | 1 => sI_rnard | _ => fun _ _ => 0, fun k => match k with | 0 => sB_rmay | 1 => sB_rnard | _ => fun _ _ => false⟩
set_option maxRecDepth 100000 in
theorem sR_rlow : funK ⟨tys_XbN, [sM_rmay 0, sM_rnard 1]⟩ 200 Try.f35 [.agg [.int .u64 (.var 0), .int .u64 (.var 1), .int .i64 (.var 2), .int .i64 (.var 3)]] ⟨[], [], [some .u64, some .u64, some .i64, some .i64]⟩ = sT_rlow := by kernel_rfl
set_option maxRecDepth 100000 in
set_option maxHeartbeats 8000000 in
theorem sX_rlow (a : Rg) (ha : Rg.ok a) : (∀ w, Calls Try.prog 35 #[.agg #[.int .u64 a.ul, .int .u64 a.uh, .int .i64 a.sl, .int .i64 a.sh]] w fun e w' => e = .returned (.agg #[.int .u64 (blow a).ul, .int .u64 (blow a).uh, .int .i64 (blow a).sl, .int .i64 (blow a).sh]) ∧ Ext w w') ∧ valIn (.agg #[.int .u64 (blow a).ul, .int .u64 (blow a).uh, .int .i64 (blow a).sl, .int .i64 (blow a).sh]) = true := by
  refine fun_calls (cx := ⟨tys_XbN, [sM_rmay 0, sM_rnard 1]⟩) (sp := sP_rlow) (t := sT_rlow) (by kernel_rfl) tysok_XbN (List.forall_mem_cons.2 ⟨sK_rmay rfl rfl, List.forall_mem_cons.2 ⟨sK_rnard rfl rfl, fun _ h => (by cases h)⟩⟩) (keys_of (by kernel_rfl)) Try.func35 ⟨fun n => ([a.ul, a.uh, a.sl, a.sh] : List Int).getD n 0, fun n => ([false, false, false, false] : List Bool).getD n false⟩ sR_rlow (by kernel_rfl) ?_ rfl (by intro p hp; cases hp) ?_ ?_
  · intro n k hk
    have hlt : n < 4 := by
      rcases Nat.lt_or_ge n 4 with h | h
      · exact h
      · rw [List.getElem?_eq_none h] at hk; cases hk
    rcases (show n = 0 ∨ n = 1 ∨ n = 2 ∨ n = 3 by omega) with rfl | rfl | rfl | rfl
    · cases hk; exact ha.1
    · cases hk; exact ha.2.1
    · cases hk; exact ha.2.2.1
    · cases hk; exact ha.2.2.2
  · intro ρ hag
    have g0 : ρ.i 0 = a.ul := (hag 0 (by decide)).1.symm
    have g1 : ρ.i 1 = a.uh := (hag 1 (by decide)).1.symm
    have g2 : ρ.i 2 = a.sl := (hag 2 (by decide)).1.symm
    have g3 : ρ.i 3 = a.sh := (hag 3 (by decide)).1.symm
    show some ([.agg #[.int .u64 (ρ.i 0), .int .u64 (ρ.i 1), .int .i64 (ρ.i 2), .int .i64 (ρ.i 3)]] : List Value) = _
    rw [g0, g1, g2, g3]
  · intro ρ hag
    have g0 : ρ.i 0 = a.ul := (hag 0 (by decide)).1.symm
    have g1 : ρ.i 1 = a.uh := (hag 1 (by decide)).1.symm
    have g2 : ρ.i 2 = a.sl := (hag 2 (by decide)).1.symm
    have g3 : ρ.i 3 = a.sh := (hag 3 (by decide)).1.symm
    simp only [sT_rlow, Tr.asks, eqs, E.I, E.B, E.L, V.den, C.den, denL, den0, den0L, Option.map_some, Nat.add_zero, Nat.reduceAdd, and_true, Rg.eta, g0, g1, g2, g3]
    simp only [sP_rlow, b01, Pi.eta, Pu.eta, Rg.eta, sI_rmay, sB_rmay, sI_rnard, sB_rnard]
    intro e4
    (try simp only [e4, Pi.eta, Pu.eta, Rg.eta])
    (try clear e4)
    refine ⟨fun c0 => ?_, fun c0 => ?_⟩
    · skip
      refine ⟨fun c1 => ?_, fun c1 => ?_⟩
      · skip
        all_goals
          refine congrArg some ?_
          (rw [show blow a = a from if_pos ⟨c0, Int.le_of_lt_add_one (of_decide_eq_true c1)⟩]; try rfl)
      · skip
        rintro ⟨e5, e6, e7, e8⟩
        (try simp only [e5, e6, e7, e8, Pi.eta, Pu.eta, Rg.eta])
        (try clear e5 e6 e7 e8)
        all_goals
          refine congrArg some ?_
          (rw [show blow a = bnar (bu 0 4294967295) from if_neg (fun q => absurd (Int.lt_add_one_of_le q.2) (of_decide_eq_false c1))]; try rfl)
    · skip
      rintro ⟨e5, e6, e7, e8⟩
      (try simp only [e5, e6, e7, e8, Pi.eta, Pu.eta, Rg.eta])
      (try clear e5 e6 e7 e8)
      all_goals
        refine congrArg some ?_
        (rw [show blow a = bnar (bu 0 4294967295) from if_neg (fun q => by rw [c0] at q; exact absurd q.1 (by simp))]; try rfl)
def sM_rlow (key : Nat) : Sm := ⟨35, key, [(true, [.int .u64, .int .u64, .int .i64, .int .i64])], [(true, [.int .u64, .int .u64, .int .i64, .int .i64])], false⟩
def sI_rlow : Nat → List Int → Int
  | 0, [x0, x1, x2, x3] => (fun (a : Rg) => (blow a).ul) ⟨x0, x1, x2, x3⟩
  | 1, [x0, x1, x2, x3] => (fun (a : Rg) => (blow a).uh) ⟨x0, x1, x2, x3⟩
  | 2, [x0, x1, x2, x3] => (fun (a : Rg) => (blow a).sl) ⟨x0, x1, x2, x3⟩
  | 3, [x0, x1, x2, x3] => (fun (a : Rg) => (blow a).sh) ⟨x0, x1, x2, x3⟩
  | _, _ => 0
def sB_rlow : Nat → List Int → Bool
  | _, _ => false
theorem sK_rlow {sp : Spec} {key : Nat} (hI : sp.I key = sI_rlow) (hB : sp.B key = sB_rlow) : SmOk Try.prog sp (sM_rlow key) := by
  refine SmOk.of (.inl ⟨run_enter Try.func35 (by kernel_rfl) (by kernel_rfl), fun xs vals h => ?_⟩) (.inr (.inl ⟨_, rfl⟩))
  obtain ⟨_, _, _, p1, h1, rfl⟩ := shA h
  obtain ⟨_, _, _, d1_0, p1_0, rfl⟩ := cksC p1
  obtain ⟨x0, rfl, rfl, gx0⟩ := ckI d1_0
  obtain ⟨_, _, _, d1_1, p1_1, rfl⟩ := cksC p1_0
  obtain ⟨x1, rfl, rfl, gx1⟩ := ckI d1_1
  obtain ⟨_, _, _, d1_2, p1_2, rfl⟩ := cksC p1_1
  obtain ⟨x2, rfl, rfl, gx2⟩ := ckI d1_2
  obtain ⟨_, _, _, d1_3, p1_3, rfl⟩ := cksC p1_2
  obtain ⟨x3, rfl, rfl, gx3⟩ := ckI d1_3
  obtain ⟨rfl, rfl⟩ := cksN p1_3
  obtain ⟨rfl, rfl⟩ := shN h1
  refine ⟨_, sX_rlow ⟨x0, x1, x2, x3⟩ ⟨gx0, gx1, gx2, gx3⟩, fun ρ v0 he => ?_⟩
  have he' : ρ.i (v0 + 0) = sp.I key 0 [x0, x1, x2, x3] ∧ ρ.i (v0 + 1) = sp.I key 1 [x0, x1, x2, x3] ∧ ρ.i (v0 + 2) = sp.I key 2 [x0, x1, x2, x3] ∧ ρ.i (v0 + 3) = sp.I key 3 [x0, x1, x2, x3] ∧ True := he
  simp only [hI, hB] at he'
  obtain ⟨e0, e1, e2, e3, -⟩ := he'
  show some (.agg #[.int .u64 (ρ.i (v0 + 0)), .int .u64 (ρ.i (v0 + 1)), .int .i64 (ρ.i (v0 + 2)), .int .i64 (ρ.i (v0 + 3))] : Value) = _
  rw [e0, e1, e2, e3]
  rfl
end Go.Proofs.Ytcngfmhhaleoaaa
