/- Contracts of the small functions of package bounds, by the symbolic run. -/
import Derived.Test.YtcngfmhhaleoaaaSxM
import Derived.Test.YtcngfmhhaleoaaaBdG
import Derived.Test.YtcngfmhhaleoaaaProg
import Derived.Laws.Externs
set_option linter.unusedVariables false
set_option linter.unusedSimpArgs false
namespace Go.Proofs.Ytcngfmhhaleoaaa
open Go.RowKit Go.ChangeShapes Go.WideShapes

structure Pu where
  lo : Int
  hi : Int
structure Pi where
  lo : Int
  hi : Int
theorem Rg.eta (a : Rg) : (⟨a.ul, a.uh, a.sl, a.sh⟩ : Rg) = a := rfl
def Rg.ok (a : Rg) : Prop := inK .u64 a.ul = true ∧ inK .u64 a.uh = true ∧ inK .i64 a.sl = true ∧ inK .i64 a.sh = true
theorem Pu.eta (a : Pu) : (⟨a.lo, a.hi⟩ : Pu) = a := rfl
def Pu.ok (a : Pu) : Prop := inK .u64 a.lo = true ∧ inK .u64 a.hi = true
theorem Pi.eta (a : Pi) : (⟨a.lo, a.hi⟩ : Pi) = a := rfl
def Pi.ok (a : Pi) : Prop := inK .i64 a.lo = true ∧ inK .i64 a.hi = true
def tys_XbA : List (Nat × TI) := [(2, ⟨false, 1, [.int .i64 (.lit 0)], [], none, some .i64, false, false⟩),
  (22, ⟨false, 1, [.int .u64 (.lit 0)], [], none, some .u64, false, false⟩),
  (24, ⟨true, 4, [.int .u64 (.lit 0), .int .u64 (.lit 0), .int .i64 (.lit 0), .int .i64 (.lit 0)], [(0, 22), (1, 22), (2, 2), (3, 2)], none, none, false, false⟩),
  (69, ⟨true, 2, [.int .u64 (.lit 0), .int .u64 (.lit 0)], [(0, 22), (1, 22)], none, none, false, false⟩),
  (72, ⟨true, 2, [.int .i64 (.lit 0), .int .i64 (.lit 0)], [(0, 2), (1, 2)], none, none, false, false⟩)]
set_option maxRecDepth 100000 in
theorem tysck_XbA : (tys_XbA.all fun p => ckTI Try.prog p.1 p.2) = true := by kernel_rfl
theorem tysne_XbA : (tys_XbA.all fun p => !p.2.eqok) = true := by kernel_rfl
theorem tysok_XbA : ∀ t i, (t, i) ∈ tys_XbA → TIok Try.prog t i := by
  intro t i h
  have h1 := all_at (f := fun _ i => !i.eqok) tysne_XbA h
  exact TIok_of (all_at (f := ckTI Try.prog) tysck_XbA h) (fun he => by simp [he] at h1) (fun he => by simp [he] at h1)
def sT_uns : Tr :=
(.leaf (.agg [.int .u64 (.var 0), .int .u64 (.var 1)]))
def sP_uns : Spec := ⟨fun k => match k with | _ => fun _ _ => 0, fun k => match k with | _ => fun _ _ => false⟩
set_option maxRecDepth 100000 in
theorem sR_uns : funK ⟨tys_XbA, []⟩ 200 Try.f50 [.agg [.int .u64 (.var 0), .int .u64 (.var 1), .int .i64 (.var 2), .int .i64 (.var 3)]] ⟨[], [], [some .u64, some .u64, some .i64, some .i64]⟩ = sT_uns := by kernel_rfl
set_option maxRecDepth 100000 in
set_option maxHeartbeats 8000000 in
theorem sX_uns (a : Rg) (ha : Rg.ok a) : (∀ w, Calls Try.prog 50 #[.agg #[.int .u64 a.ul, .int .u64 a.uh, .int .i64 a.sl, .int .i64 a.sh]] w fun e w' => e = .returned (.agg #[.int .u64 ((⟨a.ul, a.uh⟩ : Pu)).lo, .int .u64 ((⟨a.ul, a.uh⟩ : Pu)).hi]) ∧ Ext w w') ∧ valIn (.agg #[.int .u64 ((⟨a.ul, a.uh⟩ : Pu)).lo, .int .u64 ((⟨a.ul, a.uh⟩ : Pu)).hi]) = true := by
  refine fun_calls (cx := ⟨tys_XbA, []⟩) (sp := sP_uns) (t := sT_uns) (by kernel_rfl) tysok_XbA (fun _ h => (by cases h)) (keys_of (by kernel_rfl)) Try.func50 ⟨fun n => ([a.ul, a.uh, a.sl, a.sh] : List Int).getD n 0, fun n => ([false, false, false, false] : List Bool).getD n false⟩ sR_uns (by kernel_rfl) ?_ rfl (by intro p hp; cases hp) ?_ ?_
  · intro n k hk
    have hlt : n < 4 := by
      rcases Nat.lt_or_ge n 4 with h | h
      · exact h
      · rw [List.getElem?_eq_none h] at hk; cases hk
    rcases (show n = 0 ∨ n = 1 ∨ n = 2 ∨ n = 3 by omega) with rfl | rfl | rfl | rfl
    · cases hk; exact ha.1
    · cases hk; exact ha.2.1
    · cases hk; exact ha.2.2.1
    · cases hk; exact ha.2.2.2
  · intro ρ hag
    have g0 : ρ.i 0 = a.ul := (hag 0 (by decide)).1.symm
    have g1 : ρ.i 1 = a.uh := (hag 1 (by decide)).1.symm
    have g2 : ρ.i 2 = a.sl := (hag 2 (by decide)).1.symm
    have g3 : ρ.i 3 = a.sh := (hag 3 (by decide)).1.symm
    show some ([.agg #[.int .u64 (ρ.i 0), .int .u64 (ρ.i 1), .int .i64 (ρ.i 2), .int .i64 (ρ.i 3)]] : List Value) = _
    rw [g0, g1, g2, g3]
  · intro ρ hag
    have g0 : ρ.i 0 = a.ul := (hag 0 (by decide)).1.symm
    have g1 : ρ.i 1 = a.uh := (hag 1 (by decide)).1.symm
    have g2 : ρ.i 2 = a.sl := (hag 2 (by decide)).1.symm
    have g3 : ρ.i 3 = a.sh := (hag 3 (by decide)).1.symm
    simp only [sT_uns, Tr.asks, eqs, E.I, E.B, E.L, V.den, C.den, denL, den0, den0L, Option.map_some, Nat.add_zero, Nat.reduceAdd, and_true, Rg.eta, g0, g1, g2, g3]
def sM_uns (key : Nat) : Sm := ⟨50, key, [(true, [.int .u64, .int .u64, .int .i64, .int .i64])], [(true, [.int .u64, .int .u64])], false⟩
def sI_uns : Nat → List Int → Int
  | 0, [x0, x1, x2, x3] => (fun (a : Rg) => ((⟨a.ul, a.uh⟩ : Pu)).lo) ⟨x0, x1, x2, x3⟩
  | 1, [x0, x1, x2, x3] => (fun (a : Rg) => ((⟨a.ul, a.uh⟩ : Pu)).hi) ⟨x0, x1, x2, x3⟩
  | _, _ => 0
def sB_uns : Nat → List Int → Bool
  | _, _ => false
theorem sK_uns {sp : Spec} {key : Nat} (hI : sp.I key = sI_uns) (hB : sp.B key = sB_uns) : SmOk Try.prog sp (sM_uns key) := by
  refine SmOk.of (.inl ⟨run_enter Try.func50 (by kernel_rfl) (by kernel_rfl), fun xs vals h => ?_⟩) (.inr (.inl ⟨_, rfl⟩))
  obtain ⟨_, _, _, p1, h1, rfl⟩ := shA h
  obtain ⟨_, _, _, d1_0, p1_0, rfl⟩ := cksC p1
  obtain ⟨x0, rfl, rfl, gx0⟩ := ckI d1_0
  obtain ⟨_, _, _, d1_1, p1_1, rfl⟩ := cksC p1_0
  obtain ⟨x1, rfl, rfl, gx1⟩ := ckI d1_1
  obtain ⟨_, _, _, d1_2, p1_2, rfl⟩ := cksC p1_1
  obtain ⟨x2, rfl, rfl, gx2⟩ := ckI d1_2
  obtain ⟨_, _, _, d1_3, p1_3, rfl⟩ := cksC p1_2
  obtain ⟨x3, rfl, rfl, gx3⟩ := ckI d1_3
  obtain ⟨rfl, rfl⟩ := cksN p1_3
  obtain ⟨rfl, rfl⟩ := shN h1
  refine ⟨_, sX_uns ⟨x0, x1, x2, x3⟩ ⟨gx0, gx1, gx2, gx3⟩, fun ρ v0 he => ?_⟩
  have he' : ρ.i (v0 + 0) = sp.I key 0 [x0, x1, x2, x3] ∧ ρ.i (v0 + 1) = sp.I key 1 [x0, x1, x2, x3] ∧ True := he
  simp only [hI, hB] at he'
  obtain ⟨e0, e1, -⟩ := he'
  show some (.agg #[.int .u64 (ρ.i (v0 + 0)), .int .u64 (ρ.i (v0 + 1))] : Value) = _
  rw [e0, e1]
  rfl
def sT_sig : Tr :=
(.leaf (.agg [.int .i64 (.var 2), .int .i64 (.var 3)]))
def sP_sig : Spec := ⟨fun k => match k with | _ => fun _ _ => 0, fun k => match k with | _ => fun _ _ => false⟩
set_option maxRecDepth 100000 in
theorem sR_sig : funK ⟨tys_XbA, []⟩ 200 Try.f51 [.agg [.int .u64 (.var 0), .int .u64 (.var 1), .int .i64 (.var 2), .int .i64 (.var 3)]] ⟨[], [], [some .u64, some .u64, some .i64, some .i64]⟩ = sT_sig := by kernel_rfl
set_option maxRecDepth 100000 in
set_option maxHeartbeats 8000000 in
theorem sX_sig (a : Rg) (ha : Rg.ok a) : (∀ w, Calls Try.prog 51 #[.agg #[.int .u64 a.ul, .int .u64 a.uh, .int .i64 a.sl, .int .i64 a.sh]] w fun e w' => e = .returned (.agg #[.int .i64 ((⟨a.sl, a.sh⟩ : Pi)).lo, .int .i64 ((⟨a.sl, a.sh⟩ : Pi)).hi]) ∧ Ext w w') ∧ valIn (.agg #[.int .i64 ((⟨a.sl, a.sh⟩ : Pi)).lo, .int .i64 ((⟨a.sl, a.sh⟩ : Pi)).hi]) = true := by
  refine fun_calls (cx := ⟨tys_XbA, []⟩) (sp := sP_sig) (t := sT_sig) (by kernel_rfl) tysok_XbA (fun _ h => (by cases h)) (keys_of (by kernel_rfl)) Try.func51 ⟨fun n => ([a.ul, a.uh, a.sl, a.sh] : List Int).getD n 0, fun n => ([false, false, false, false] : List Bool).getD n false⟩ sR_sig (by kernel_rfl) ?_ rfl (by intro p hp; cases hp) ?_ ?_
  · intro n k hk
    have hlt : n < 4 := by
      rcases Nat.lt_or_ge n 4 with h | h
      · exact h
      · rw [List.getElem?_eq_none h] at hk; cases hk
    rcases (show n = 0 ∨ n = 1 ∨ n = 2 ∨ n = 3 by omega) with rfl | rfl | rfl | rfl
    · cases hk; exact ha.1
    · cases hk; exact ha.2.1
    · cases hk; exact ha.2.2.1
    · cases hk; exact ha.2.2.2
  · intro ρ hag
    have g0 : ρ.i 0 = a.ul := (hag 0 (by decide)).1.symm
    have g1 : ρ.i 1 = a.uh := (hag 1 (by decide)).1.symm
    have g2 : ρ.i 2 = a.sl := (hag 2 (by decide)).1.symm
    have g3 : ρ.i 3 = a.sh := (hag 3 (by decide)).1.symm
    show some ([.agg #[.int .u64 (ρ.i 0), .int .u64 (ρ.i 1), .int .i64 (ρ.i 2), .int .i64 (ρ.i 3)]] : List Value) = _
    rw [g0, g1, g2, g3]
  · intro ρ hag
    have g0 : ρ.i 0 = a.ul := (hag 0 (by decide)).1.symm
    have g1 : ρ.i 1 = a.uh := (hag 1 (by decide)).1.symm
    have g2 : ρ.i 2 = a.sl := (hag 2 (by decide)).1.symm
    have g3 : ρ.i 3 = a.sh := (hag 3 (by decide)).1.symm
    simp only [sT_sig, Tr.asks, eqs, E.I, E.B, E.L, V.den, C.den, denL, den0, den0L, Option.map_some, Nat.add_zero, Nat.reduceAdd, and_true, Rg.eta, g0, g1, g2, g3]
def sM_sig (key : Nat) : Sm := ⟨51, key, [(true, [.int .u64, .int .u64, .int .i64, .int .i64])], [(true, [.int .i64, .int .i64])], false⟩
def sI_sig : Nat → List Int → Int
  | 0, [x0, x1, x2, x3] => (fun (a : Rg) => ((⟨a.sl, a.sh⟩ : Pi)).lo) ⟨x0, x1, x2, x3⟩
  | 1, [x0, x1, x2, x3] => (fun (a : Rg) => ((⟨a.sl, a.sh⟩ : Pi)).hi) ⟨x0, x1, x2, x3⟩
  | _, _ => 0
def sB_sig : Nat → List Int → Bool
  | _, _ => false
theorem sK_sig {sp : Spec} {key : Nat} (hI : sp.I key = sI_sig) (hB : sp.B key = sB_sig) : SmOk Try.prog sp (sM_sig key) := by
  refine SmOk.of (.inl ⟨run_enter Try.func51 (by kernel_rfl) (by kernel_rfl), fun xs vals h => ?_⟩) (.inr (.inl ⟨_, rfl⟩))
  obtain ⟨_, _, _, p1, h1, rfl⟩ := shA h
  obtain ⟨_, _, _, d1_0, p1_0, rfl⟩ := cksC p1
  obtain ⟨x0, rfl, rfl, gx0⟩ := ckI d1_0
  obtain ⟨_, _, _, d1_1, p1_1, rfl⟩ := cksC p1_0
  obtain ⟨x1, rfl, rfl, gx1⟩ := ckI d1_1
  obtain ⟨_, _, _, d1_2, p1_2, rfl⟩ := cksC p1_1
  obtain ⟨x2, rfl, rfl, gx2⟩ := ckI d1_2
  obtain ⟨_, _, _, d1_3, p1_3, rfl⟩ := cksC p1_2
  obtain ⟨x3, rfl, rfl, gx3⟩ := ckI d1_3
  obtain ⟨rfl, rfl⟩ := cksN p1_3
  obtain ⟨rfl, rfl⟩ := shN h1
  refine ⟨_, sX_sig ⟨x0, x1, x2, x3⟩ ⟨gx0, gx1, gx2, gx3⟩, fun ρ v0 he => ?_⟩
  have he' : ρ.i (v0 + 0) = sp.I key 0 [x0, x1, x2, x3] ∧ ρ.i (v0 + 1) = sp.I key 1 [x0, x1, x2, x3] ∧ True := he
  simp only [hI, hB] at he'
  obtain ⟨e0, e1, -⟩ := he'
  show some (.agg #[.int .i64 (ρ.i (v0 + 0)), .int .i64 (ρ.i (v0 + 1))] : Value) = _
  rw [e0, e1]
  rfl
def sT_umay : Tr :=
(.leaf (.one (.bool (.not (.lt (.var 1) (.var 0))))))
def sP_umay : Spec := ⟨fun k => match k with | _ => fun _ _ => 0, fun k => match k with | _ => fun _ _ => false⟩
set_option maxRecDepth 100000 in
theorem sR_umay : funK ⟨tys_XbA, []⟩ 200 Try.f58 [.agg [.int .u64 (.var 0), .int .u64 (.var 1)]] ⟨[], [], [some .u64, some .u64]⟩ = sT_umay := by kernel_rfl
set_option maxRecDepth 100000 in
set_option maxHeartbeats 8000000 in
theorem sX_umay (a : Pu) (ha : Pu.ok a) : (∀ w, Calls Try.prog 58 #[.agg #[.int .u64 a.lo, .int .u64 a.hi]] w fun e w' => e = .returned (.bool (decide (a.lo ≤ a.hi))) ∧ Ext w w') ∧ valIn (.bool (decide (a.lo ≤ a.hi))) = true := by
  refine fun_calls (cx := ⟨tys_XbA, []⟩) (sp := sP_umay) (t := sT_umay) (by kernel_rfl) tysok_XbA (fun _ h => (by cases h)) (keys_of (by kernel_rfl)) Try.func58 ⟨fun n => ([a.lo, a.hi] : List Int).getD n 0, fun n => ([false, false] : List Bool).getD n false⟩ sR_umay (by kernel_rfl) ?_ rfl (by intro p hp; cases hp) ?_ ?_
  · intro n k hk
    have hlt : n < 2 := by
      rcases Nat.lt_or_ge n 2 with h | h
      · exact h
      · rw [List.getElem?_eq_none h] at hk; cases hk
    rcases (show n = 0 ∨ n = 1 by omega) with rfl | rfl
    · cases hk; exact ha.1
    · cases hk; exact ha.2
  · intro ρ hag
    have g0 : ρ.i 0 = a.lo := (hag 0 (by decide)).1.symm
    have g1 : ρ.i 1 = a.hi := (hag 1 (by decide)).1.symm
    show some ([.agg #[.int .u64 (ρ.i 0), .int .u64 (ρ.i 1)]] : List Value) = _
    rw [g0, g1]
  · intro ρ hag
    have g0 : ρ.i 0 = a.lo := (hag 0 (by decide)).1.symm
    have g1 : ρ.i 1 = a.hi := (hag 1 (by decide)).1.symm
    simp only [sT_umay, Tr.asks, eqs, E.I, E.B, E.L, V.den, C.den, denL, den0, den0L, Option.map_some, Nat.add_zero, Nat.reduceAdd, and_true, Pu.eta, g0, g1]
    all_goals
      refine congrArg some ?_
      simp [not_lt_le]
def sM_umay (key : Nat) : Sm := ⟨58, key, [(true, [.int .u64, .int .u64])], [(false, [.bool])], false⟩
def sI_umay : Nat → List Int → Int
  | _, _ => 0
def sB_umay : Nat → List Int → Bool
  | 0, [x0, x1] => (fun (a : Pu) => decide (a.lo ≤ a.hi)) ⟨x0, x1⟩
  | _, _ => false
theorem sK_umay {sp : Spec} {key : Nat} (hI : sp.I key = sI_umay) (hB : sp.B key = sB_umay) : SmOk Try.prog sp (sM_umay key) := by
  refine SmOk.of (.inl ⟨run_enter Try.func58 (by kernel_rfl) (by kernel_rfl), fun xs vals h => ?_⟩) (.inr (.inr ⟨_, rfl⟩))
  obtain ⟨_, _, _, p1, h1, rfl⟩ := shA h
  obtain ⟨_, _, _, d1_0, p1_0, rfl⟩ := cksC p1
  obtain ⟨x0, rfl, rfl, gx0⟩ := ckI d1_0
  obtain ⟨_, _, _, d1_1, p1_1, rfl⟩ := cksC p1_0
  obtain ⟨x1, rfl, rfl, gx1⟩ := ckI d1_1
  obtain ⟨rfl, rfl⟩ := cksN p1_1
  obtain ⟨rfl, rfl⟩ := shN h1
  refine ⟨_, sX_umay ⟨x0, x1⟩ ⟨gx0, gx1⟩, fun ρ v0 he => ?_⟩
  have he' : ρ.b (v0 + 0) = sp.B key 0 [x0, x1] ∧ True := he
  simp only [hI, hB] at he'
  obtain ⟨e0, -⟩ := he'
  show some (.bool (ρ.b (v0 + 0)) : Value) = _
  rw [e0]
  rfl
def sT_imay : Tr :=
(.leaf (.one (.bool (.not (.lt (.var 1) (.var 0))))))
def sP_imay : Spec := ⟨fun k => match k with | _ => fun _ _ => 0, fun k => match k with | _ => fun _ _ => false⟩
set_option maxRecDepth 100000 in
theorem sR_imay : funK ⟨tys_XbA, []⟩ 200 Try.f59 [.agg [.int .i64 (.var 0), .int .i64 (.var 1)]] ⟨[], [], [some .i64, some .i64]⟩ = sT_imay := by kernel_rfl
set_option maxRecDepth 100000 in
set_option maxHeartbeats 8000000 in
theorem sX_imay (a : Pi) (ha : Pi.ok a) : (∀ w, Calls Try.prog 59 #[.agg #[.int .i64 a.lo, .int .i64 a.hi]] w fun e w' => e = .returned (.bool (decide (a.lo ≤ a.hi))) ∧ Ext w w') ∧ valIn (.bool (decide (a.lo ≤ a.hi))) = true := by
  refine fun_calls (cx := ⟨tys_XbA, []⟩) (sp := sP_imay) (t := sT_imay) (by kernel_rfl) tysok_XbA (fun _ h => (by cases h)) (keys_of (by kernel_rfl)) Try.func59 ⟨fun n => ([a.lo, a.hi] : List Int).getD n 0, fun n => ([false, false] : List Bool).getD n false⟩ sR_imay (by kernel_rfl) ?_ rfl (by intro p hp; cases hp) ?_ ?_
  · intro n k hk
    have hlt : n < 2 := by
      rcases Nat.lt_or_ge n 2 with h | h
      · exact h
      · rw [List.getElem?_eq_none h] at hk; cases hk
    rcases (show n = 0 ∨ n = 1 by omega) with rfl | rfl
    · cases hk; exact ha.1
    · cases hk; exact ha.2
  · intro ρ hag
    have g0 : ρ.i 0 = a.lo := (hag 0 (by decide)).1.symm
    have g1 : ρ.i 1 = a.hi := (hag 1 (by decide)).1.symm
    show some ([.agg #[.int .i64 (ρ.i 0), .int .i64 (ρ.i 1)]] : List Value) = _
    rw [g0, g1]
  · intro ρ hag
    have g0 : ρ.i 0 = a.lo := (hag 0 (by decide)).1.symm
    have g1 : ρ.i 1 = a.hi := (hag 1 (by decide)).1.symm
    simp only [sT_imay, Tr.asks, eqs, E.I, E.B, E.L, V.den, C.den, denL, den0, den0L, Option.map_some, Nat.add_zero, Nat.reduceAdd, and_true, Pi.eta, g0, g1]
    all_goals
      refine congrArg some ?_
      simp [not_lt_le]
def sM_imay (key : Nat) : Sm := ⟨59, key, [(true, [.int .i64, .int .i64])], [(false, [.bool])], false⟩
def sI_imay : Nat → List Int → Int
  | _, _ => 0
def sB_imay : Nat → List Int → Bool
  | 0, [x0, x1] => (fun (a : Pi) => decide (a.lo ≤ a.hi)) ⟨x0, x1⟩
  | _, _ => false
theorem sK_imay {sp : Spec} {key : Nat} (hI : sp.I key = sI_imay) (hB : sp.B key = sB_imay) : SmOk Try.prog sp (sM_imay key) := by
  refine SmOk.of (.inl ⟨run_enter Try.func59 (by kernel_rfl) (by kernel_rfl), fun xs vals h => ?_⟩) (.inr (.inr ⟨_, rfl⟩))
  obtain ⟨_, _, _, p1, h1, rfl⟩ := shA h
  obtain ⟨_, _, _, d1_0, p1_0, rfl⟩ := cksC p1
  obtain ⟨x0, rfl, rfl, gx0⟩ := ckI d1_0
  obtain ⟨_, _, _, d1_1, p1_1, rfl⟩ := cksC p1_0
  obtain ⟨x1, rfl, rfl, gx1⟩ := ckI d1_1
  obtain ⟨rfl, rfl⟩ := cksN p1_1
  obtain ⟨rfl, rfl⟩ := shN h1
  refine ⟨_, sX_imay ⟨x0, x1⟩ ⟨gx0, gx1⟩, fun ρ v0 he => ?_⟩
  have he' : ρ.b (v0 + 0) = sp.B key 0 [x0, x1] ∧ True := he
  simp only [hI, hB] at he'
  obtain ⟨e0, -⟩ := he'
  show some (.bool (ρ.b (v0 + 0)) : Value) = _
  rw [e0]
  rfl
def sT_uhas : Tr :=
(.br (.lt (.var 2) (.var 0))
 (.leaf (.one (.bool (.tt false))))
 (.leaf (.one (.bool (.not (.lt (.var 1) (.var 2)))))))
def sP_uhas : Spec := ⟨fun k => match k with | _ => fun _ _ => 0, fun k => match k with | _ => fun _ _ => false⟩
set_option maxRecDepth 100000 in
theorem sR_uhas : funK ⟨tys_XbA, []⟩ 200 Try.f55 [.agg [.int .u64 (.var 0), .int .u64 (.var 1)], .one (.int .u64 (.var 2))] ⟨[], [], [some .u64, some .u64, some .u64]⟩ = sT_uhas := by kernel_rfl
set_option maxRecDepth 100000 in
set_option maxHeartbeats 8000000 in
theorem sX_uhas (a : Pu) (ha : Pu.ok a) (v : Int) (hv : inK .u64 v = true) : (∀ w, Calls Try.prog 55 #[.agg #[.int .u64 a.lo, .int .u64 a.hi], .int .u64 v] w fun e w' => e = .returned (.bool ((decide (a.lo ≤ v) && decide (v ≤ a.hi)))) ∧ Ext w w') ∧ valIn (.bool ((decide (a.lo ≤ v) && decide (v ≤ a.hi)))) = true := by
  refine fun_calls (cx := ⟨tys_XbA, []⟩) (sp := sP_uhas) (t := sT_uhas) (by kernel_rfl) tysok_XbA (fun _ h => (by cases h)) (keys_of (by kernel_rfl)) Try.func55 ⟨fun n => ([a.lo, a.hi, v] : List Int).getD n 0, fun n => ([false, false, false] : List Bool).getD n false⟩ sR_uhas (by kernel_rfl) ?_ rfl (by intro p hp; cases hp) ?_ ?_
  · intro n k hk
    have hlt : n < 3 := by
      rcases Nat.lt_or_ge n 3 with h | h
      · exact h
      · rw [List.getElem?_eq_none h] at hk; cases hk
    rcases (show n = 0 ∨ n = 1 ∨ n = 2 by omega) with rfl | rfl | rfl
    · cases hk; exact ha.1
    · cases hk; exact ha.2
    · cases hk; exact hv
  · intro ρ hag
    have g0 : ρ.i 0 = a.lo := (hag 0 (by decide)).1.symm
    have g1 : ρ.i 1 = a.hi := (hag 1 (by decide)).1.symm
    have g2 : ρ.i 2 = v := (hag 2 (by decide)).1.symm
    show some ([.agg #[.int .u64 (ρ.i 0), .int .u64 (ρ.i 1)], .int .u64 (ρ.i 2)] : List Value) = _
    rw [g0, g1, g2]
  · intro ρ hag
    have g0 : ρ.i 0 = a.lo := (hag 0 (by decide)).1.symm
    have g1 : ρ.i 1 = a.hi := (hag 1 (by decide)).1.symm
    have g2 : ρ.i 2 = v := (hag 2 (by decide)).1.symm
    simp only [sT_uhas, Tr.asks, eqs, E.I, E.B, E.L, V.den, C.den, denL, den0, den0L, Option.map_some, Nat.add_zero, Nat.reduceAdd, and_true, Pu.eta, g0, g1, g2]
    refine ⟨fun c0 => ?_, fun c0 => ?_⟩
    · skip
      all_goals
        refine congrArg some ?_
        simp_all [not_lt_le]
    · skip
      all_goals
        refine congrArg some ?_
        simp_all [not_lt_le]
def sM_uhas (key : Nat) : Sm := ⟨55, key, [(true, [.int .u64, .int .u64]), (false, [.int .u64])], [(false, [.bool])], false⟩
def sI_uhas : Nat → List Int → Int
  | _, _ => 0
def sB_uhas : Nat → List Int → Bool
  | 0, [x0, x1, x2] => (fun (a : Pu) (v : Int) => (decide (a.lo ≤ v) && decide (v ≤ a.hi))) ⟨x0, x1⟩ x2
  | _, _ => false
theorem sK_uhas {sp : Spec} {key : Nat} (hI : sp.I key = sI_uhas) (hB : sp.B key = sB_uhas) : SmOk Try.prog sp (sM_uhas key) := by
  refine SmOk.of (.inl ⟨run_enter Try.func55 (by kernel_rfl) (by kernel_rfl), fun xs vals h => ?_⟩) (.inr (.inr ⟨_, rfl⟩))
  obtain ⟨_, _, _, p1, h1, rfl⟩ := shA h
  obtain ⟨_, _, _, d1_0, p1_0, rfl⟩ := cksC p1
  obtain ⟨x0, rfl, rfl, gx0⟩ := ckI d1_0
  obtain ⟨_, _, _, d1_1, p1_1, rfl⟩ := cksC p1_0
  obtain ⟨x1, rfl, rfl, gx1⟩ := ckI d1_1
  obtain ⟨rfl, rfl⟩ := cksN p1_1
  obtain ⟨_, _, _, d2, h2, rfl⟩ := shO h1
  obtain ⟨x2, rfl, rfl, gx2⟩ := ckI d2
  obtain ⟨rfl, rfl⟩ := shN h2
  refine ⟨_, sX_uhas ⟨x0, x1⟩ ⟨gx0, gx1⟩ x2 gx2, fun ρ v0 he => ?_⟩
  have he' : ρ.b (v0 + 0) = sp.B key 0 [x0, x1, x2] ∧ True := he
  simp only [hI, hB] at he'
  obtain ⟨e0, -⟩ := he'
  show some (.bool (ρ.b (v0 + 0)) : Value) = _
  rw [e0]
  rfl
def sT_ihas : Tr :=
(.br (.lt (.var 2) (.var 0))
 (.leaf (.one (.bool (.tt false))))
 (.leaf (.one (.bool (.not (.lt (.var 1) (.var 2)))))))
def sP_ihas : Spec := ⟨fun k => match k with | _ => fun _ _ => 0, fun k => match k with | _ => fun _ _ => false⟩
set_option maxRecDepth 100000 in
theorem sR_ihas : funK ⟨tys_XbA, []⟩ 200 Try.f56 [.agg [.int .i64 (.var 0), .int .i64 (.var 1)], .one (.int .i64 (.var 2))] ⟨[], [], [some .i64, some .i64, some .i64]⟩ = sT_ihas := by kernel_rfl
set_option maxRecDepth 100000 in
set_option maxHeartbeats 8000000 in
theorem sX_ihas (a : Pi) (ha : Pi.ok a) (v : Int) (hv : inK .i64 v = true) : (∀ w, Calls Try.prog 56 #[.agg #[.int .i64 a.lo, .int .i64 a.hi], .int .i64 v] w fun e w' => e = .returned (.bool ((decide (a.lo ≤ v) && decide (v ≤ a.hi)))) ∧ Ext w w') ∧ valIn (.bool ((decide (a.lo ≤ v) && decide (v ≤ a.hi)))) = true := by
  refine fun_calls (cx := ⟨tys_XbA, []⟩) (sp := sP_ihas) (t := sT_ihas) (by kernel_rfl) tysok_XbA (fun _ h => (by cases h)) (keys_of (by kernel_rfl)) Try.func56 ⟨fun n => ([a.lo, a.hi, v] : List Int).getD n 0, fun n => ([false, false, false] : List Bool).getD n false⟩ sR_ihas (by kernel_rfl) ?_ rfl (by intro p hp; cases hp) ?_ ?_
  · intro n k hk
    have hlt : n < 3 := by
      rcases Nat.lt_or_ge n 3 with h | h
      · exact h
      · rw [List.getElem?_eq_none h] at hk; cases hk
    rcases (show n = 0 ∨ n = 1 ∨ n = 2 by omega) with rfl | rfl | rfl
    · cases hk; exact ha.1
    · cases hk; exact ha.2
    · cases hk; exact hv
  · intro ρ hag
    have g0 : ρ.i 0 = a.lo := (hag 0 (by decide)).1.symm
    have g1 : ρ.i 1 = a.hi := (hag 1 (by decide)).1.symm
    have g2 : ρ.i 2 = v := (hag 2 (by decide)).1.symm
    show some ([.agg #[.int .i64 (ρ.i 0), .int .i64 (ρ.i 1)], .int .i64 (ρ.i 2)] : List Value) = _
    rw [g0, g1, g2]
  · intro ρ hag
    have g0 : ρ.i 0 = a.lo := (hag 0 (by decide)).1.symm
    have g1 : ρ.i 1 = a.hi := (hag 1 (by decide)).1.symm
    have g2 : ρ.i 2 = v := (hag 2 (by decide)).1.symm
    simp only [sT_ihas, Tr.asks, eqs, E.I, E.B, E.L, V.den, C.den, denL, den0, den0L, Option.map_some, Nat.add_zero, Nat.reduceAdd, and_true, Pi.eta, g0, g1, g2]
    refine ⟨fun c0 => ?_, fun c0 => ?_⟩
    · skip
      all_goals
        refine congrArg some ?_
        simp_all [not_lt_le]
    · skip
      all_goals
        refine congrArg some ?_
        simp_all [not_lt_le]
def sM_ihas (key : Nat) : Sm := ⟨56, key, [(true, [.int .i64, .int .i64]), (false, [.int .i64])], [(false, [.bool])], false⟩
def sI_ihas : Nat → List Int → Int
  | _, _ => 0
def sB_ihas : Nat → List Int → Bool
  | 0, [x0, x1, x2] => (fun (a : Pi) (v : Int) => (decide (a.lo ≤ v) && decide (v ≤ a.hi))) ⟨x0, x1⟩ x2
  | _, _ => false
theorem sK_ihas {sp : Spec} {key : Nat} (hI : sp.I key = sI_ihas) (hB : sp.B key = sB_ihas) : SmOk Try.prog sp (sM_ihas key) := by
  refine SmOk.of (.inl ⟨run_enter Try.func56 (by kernel_rfl) (by kernel_rfl), fun xs vals h => ?_⟩) (.inr (.inr ⟨_, rfl⟩))
  obtain ⟨_, _, _, p1, h1, rfl⟩ := shA h
  obtain ⟨_, _, _, d1_0, p1_0, rfl⟩ := cksC p1
  obtain ⟨x0, rfl, rfl, gx0⟩ := ckI d1_0
  obtain ⟨_, _, _, d1_1, p1_1, rfl⟩ := cksC p1_0
  obtain ⟨x1, rfl, rfl, gx1⟩ := ckI d1_1
  obtain ⟨rfl, rfl⟩ := cksN p1_1
  obtain ⟨_, _, _, d2, h2, rfl⟩ := shO h1
  obtain ⟨x2, rfl, rfl, gx2⟩ := ckI d2
  obtain ⟨rfl, rfl⟩ := shN h2
  refine ⟨_, sX_ihas ⟨x0, x1⟩ ⟨gx0, gx1⟩ x2 gx2, fun ρ v0 he => ?_⟩
  have he' : ρ.b (v0 + 0) = sp.B key 0 [x0, x1, x2] ∧ True := he
  simp only [hI, hB] at he'
  obtain ⟨e0, -⟩ := he'
  show some (.bool (ρ.b (v0 + 0)) : Value) = _
  rw [e0]
  rfl
def sT_umeet : Tr :=
(.leaf (.agg [.int .u64 (.mx (.var 0) (.var 2)), .int .u64 (.mn (.var 1) (.var 3))]))
def sP_umeet : Spec := ⟨fun k => match k with | _ => fun _ _ => 0, fun k => match k with | _ => fun _ _ => false⟩
set_option maxRecDepth 100000 in
theorem sR_umeet : funK ⟨tys_XbA, []⟩ 200 Try.f52 [.agg [.int .u64 (.var 0), .int .u64 (.var 1)], .agg [.int .u64 (.var 2), .int .u64 (.var 3)]] ⟨[], [], [some .u64, some .u64, some .u64, some .u64]⟩ = sT_umeet := by kernel_rfl
set_option maxRecDepth 100000 in
set_option maxHeartbeats 8000000 in
theorem sX_umeet (a : Pu) (ha : Pu.ok a) (b : Pu) (hb : Pu.ok b) : (∀ w, Calls Try.prog 52 #[.agg #[.int .u64 a.lo, .int .u64 a.hi], .agg #[.int .u64 b.lo, .int .u64 b.hi]] w fun e w' => e = .returned (.agg #[.int .u64 ((⟨max a.lo b.lo, min a.hi b.hi⟩ : Pu)).lo, .int .u64 ((⟨max a.lo b.lo, min a.hi b.hi⟩ : Pu)).hi]) ∧ Ext w w') ∧ valIn (.agg #[.int .u64 ((⟨max a.lo b.lo, min a.hi b.hi⟩ : Pu)).lo, .int .u64 ((⟨max a.lo b.lo, min a.hi b.hi⟩ : Pu)).hi]) = true := by
  refine fun_calls (cx := ⟨tys_XbA, []⟩) (sp := sP_umeet) (t := sT_umeet) (by kernel_rfl) tysok_XbA (fun _ h => (by cases h)) (keys_of (by kernel_rfl)) Try.func52 ⟨fun n => ([a.lo, a.hi, b.lo, b.hi] : List Int).getD n 0, fun n => ([false, false, false, false] : List Bool).getD n false⟩ sR_umeet (by kernel_rfl) ?_ rfl (by intro p hp; cases hp) ?_ ?_
  · intro n k hk
    have hlt : n < 4 := by
      rcases Nat.lt_or_ge n 4 with h | h
      · exact h
      · rw [List.getElem?_eq_none h] at hk; cases hk
    rcases (show n = 0 ∨ n = 1 ∨ n = 2 ∨ n = 3 by omega) with rfl | rfl | rfl | rfl
    · cases hk; exact ha.1
    · cases hk; exact ha.2
    · cases hk; exact hb.1
    · cases hk; exact hb.2
  · intro ρ hag
    have g0 : ρ.i 0 = a.lo := (hag 0 (by decide)).1.symm
    have g1 : ρ.i 1 = a.hi := (hag 1 (by decide)).1.symm
    have g2 : ρ.i 2 = b.lo := (hag 2 (by decide)).1.symm
    have g3 : ρ.i 3 = b.hi := (hag 3 (by decide)).1.symm
    show some ([.agg #[.int .u64 (ρ.i 0), .int .u64 (ρ.i 1)], .agg #[.int .u64 (ρ.i 2), .int .u64 (ρ.i 3)]] : List Value) = _
    rw [g0, g1, g2, g3]
  · intro ρ hag
    have g0 : ρ.i 0 = a.lo := (hag 0 (by decide)).1.symm
    have g1 : ρ.i 1 = a.hi := (hag 1 (by decide)).1.symm
    have g2 : ρ.i 2 = b.lo := (hag 2 (by decide)).1.symm
    have g3 : ρ.i 3 = b.hi := (hag 3 (by decide)).1.symm
    simp only [sT_umeet, Tr.asks, eqs, E.I, E.B, E.L, V.den, C.den, denL, den0, den0L, Option.map_some, Nat.add_zero, Nat.reduceAdd, and_true, Pu.eta, g0, g1, g2, g3]
def sM_umeet (key : Nat) : Sm := ⟨52, key, [(true, [.int .u64, .int .u64]), (true, [.int .u64, .int .u64])], [(true, [.int .u64, .int .u64])], false⟩
def sI_umeet : Nat → List Int → Int
  | 0, [x0, x1, x2, x3] => (fun (a : Pu) (b : Pu) => ((⟨max a.lo b.lo, min a.hi b.hi⟩ : Pu)).lo) ⟨x0, x1⟩ ⟨x2, x3⟩
  | 1, [x0, x1, x2, x3] => (fun (a : Pu) (b : Pu) => ((⟨max a.lo b.lo, min a.hi b.hi⟩ : Pu)).hi) ⟨x0, x1⟩ ⟨x2, x3⟩
  | _, _ => 0
def sB_umeet : Nat → List Int → Bool
  | _, _ => false
theorem sK_umeet {sp : Spec} {key : Nat} (hI : sp.I key = sI_umeet) (hB : sp.B key = sB_umeet) : SmOk Try.prog sp (sM_umeet key) := by
  refine SmOk.of (.inl ⟨run_enter Try.func52 (by kernel_rfl) (by kernel_rfl), fun xs vals h => ?_⟩) (.inr (.inl ⟨_, rfl⟩))
  obtain ⟨_, _, _, p1, h1, rfl⟩ := shA h
  obtain ⟨_, _, _, d1_0, p1_0, rfl⟩ := cksC p1
  obtain ⟨x0, rfl, rfl, gx0⟩ := ckI d1_0
  obtain ⟨_, _, _, d1_1, p1_1, rfl⟩ := cksC p1_0
  obtain ⟨x1, rfl, rfl, gx1⟩ := ckI d1_1
  obtain ⟨rfl, rfl⟩ := cksN p1_1
  obtain ⟨_, _, _, p2, h2, rfl⟩ := shA h1
  obtain ⟨_, _, _, d2_0, p2_0, rfl⟩ := cksC p2
  obtain ⟨x2, rfl, rfl, gx2⟩ := ckI d2_0
  obtain ⟨_, _, _, d2_1, p2_1, rfl⟩ := cksC p2_0
  obtain ⟨x3, rfl, rfl, gx3⟩ := ckI d2_1
  obtain ⟨rfl, rfl⟩ := cksN p2_1
  obtain ⟨rfl, rfl⟩ := shN h2
  refine ⟨_, sX_umeet ⟨x0, x1⟩ ⟨gx0, gx1⟩ ⟨x2, x3⟩ ⟨gx2, gx3⟩, fun ρ v0 he => ?_⟩
  have he' : ρ.i (v0 + 0) = sp.I key 0 [x0, x1, x2, x3] ∧ ρ.i (v0 + 1) = sp.I key 1 [x0, x1, x2, x3] ∧ True := he
  simp only [hI, hB] at he'
  obtain ⟨e0, e1, -⟩ := he'
  show some (.agg #[.int .u64 (ρ.i (v0 + 0)), .int .u64 (ρ.i (v0 + 1))] : Value) = _
  rw [e0, e1]
  rfl
def sT_ujoin : Tr :=
(.leaf (.agg [.int .u64 (.mn (.var 0) (.var 2)), .int .u64 (.mx (.var 1) (.var 3))]))
def sP_ujoin : Spec := ⟨fun k => match k with | _ => fun _ _ => 0, fun k => match k with | _ => fun _ _ => false⟩
set_option maxRecDepth 100000 in
theorem sR_ujoin : funK ⟨tys_XbA, []⟩ 200 Try.f68 [.agg [.int .u64 (.var 0), .int .u64 (.var 1)], .agg [.int .u64 (.var 2), .int .u64 (.var 3)]] ⟨[], [], [some .u64, some .u64, some .u64, some .u64]⟩ = sT_ujoin := by kernel_rfl
set_option maxRecDepth 100000 in
set_option maxHeartbeats 8000000 in
theorem sX_ujoin (a : Pu) (ha : Pu.ok a) (b : Pu) (hb : Pu.ok b) : (∀ w, Calls Try.prog 68 #[.agg #[.int .u64 a.lo, .int .u64 a.hi], .agg #[.int .u64 b.lo, .int .u64 b.hi]] w fun e w' => e = .returned (.agg #[.int .u64 ((⟨min a.lo b.lo, max a.hi b.hi⟩ : Pu)).lo, .int .u64 ((⟨min a.lo b.lo, max a.hi b.hi⟩ : Pu)).hi]) ∧ Ext w w') ∧ valIn (.agg #[.int .u64 ((⟨min a.lo b.lo, max a.hi b.hi⟩ : Pu)).lo, .int .u64 ((⟨min a.lo b.lo, max a.hi b.hi⟩ : Pu)).hi]) = true := by
  refine fun_calls (cx := ⟨tys_XbA, []⟩) (sp := sP_ujoin) (t := sT_ujoin) (by kernel_rfl) tysok_XbA (fun _ h => (by cases h)) (keys_of (by kernel_rfl)) Try.func68 ⟨fun n => ([a.lo, a.hi, b.lo, b.hi] : List Int).getD n 0, fun n => ([false, false, false, false] : List Bool).getD n false⟩ sR_ujoin (by kernel_rfl) ?_ rfl (by intro p hp; cases hp) ?_ ?_
  · intro n k hk
    have hlt : n < 4 := by
      rcases Nat.lt_or_ge n 4 with h | h
      · exact h
      · rw [List.getElem?_eq_none h] at hk; cases hk
    rcases (show n = 0 ∨ n = 1 ∨ n = 2 ∨ n = 3 by omega) with rfl | rfl | rfl | rfl
    · cases hk; exact ha.1
    · cases hk; exact ha.2
    · cases hk; exact hb.1
    · cases hk; exact hb.2
  · intro ρ hag
    have g0 : ρ.i 0 = a.lo := (hag 0 (by decide)).1.symm
    have g1 : ρ.i 1 = a.hi := (hag 1 (by decide)).1.symm
    have g2 : ρ.i 2 = b.lo := (hag 2 (by decide)).1.symm
    have g3 : ρ.i 3 = b.hi := (hag 3 (by decide)).1.symm
    show some ([.agg #[.int .u64 (ρ.i 0), .int .u64 (ρ.i 1)], .agg #[.int .u64 (ρ.i 2), .int .u64 (ρ.i 3)]] : List Value) = _
    rw [g0, g1, g2, g3]
  · intro ρ hag
    have g0 : ρ.i 0 = a.lo := (hag 0 (by decide)).1.symm
    have g1 : ρ.i 1 = a.hi := (hag 1 (by decide)).1.symm
    have g2 : ρ.i 2 = b.lo := (hag 2 (by decide)).1.symm
    have g3 : ρ.i 3 = b.hi := (hag 3 (by decide)).1.symm
    simp only [sT_ujoin, Tr.asks, eqs, E.I, E.B, E.L, V.den, C.den, denL, den0, den0L, Option.map_some, Nat.add_zero, Nat.reduceAdd, and_true, Pu.eta, g0, g1, g2, g3]
def sM_ujoin (key : Nat) : Sm := ⟨68, key, [(true, [.int .u64, .int .u64]), (true, [.int .u64, .int .u64])], [(true, [.int .u64, .int .u64])], false⟩
def sI_ujoin : Nat → List Int → Int
  | 0, [x0, x1, x2, x3] => (fun (a : Pu) (b : Pu) => ((⟨min a.lo b.lo, max a.hi b.hi⟩ : Pu)).lo) ⟨x0, x1⟩ ⟨x2, x3⟩
  | 1, [x0, x1, x2, x3] => (fun (a : Pu) (b : Pu) => ((⟨min a.lo b.lo, max a.hi b.hi⟩ : Pu)).hi) ⟨x0, x1⟩ ⟨x2, x3⟩
  | _, _ => 0
def sB_ujoin : Nat → List Int → Bool
  | _, _ => false
theorem sK_ujoin {sp : Spec} {key : Nat} (hI : sp.I key = sI_ujoin) (hB : sp.B key = sB_ujoin) : SmOk Try.prog sp (sM_ujoin key) := by
  refine SmOk.of (.inl ⟨run_enter Try.func68 (by kernel_rfl) (by kernel_rfl), fun xs vals h => ?_⟩) (.inr (.inl ⟨_, rfl⟩))
  obtain ⟨_, _, _, p1, h1, rfl⟩ := shA h
  obtain ⟨_, _, _, d1_0, p1_0, rfl⟩ := cksC p1
  obtain ⟨x0, rfl, rfl, gx0⟩ := ckI d1_0
  obtain ⟨_, _, _, d1_1, p1_1, rfl⟩ := cksC p1_0
  obtain ⟨x1, rfl, rfl, gx1⟩ := ckI d1_1
  obtain ⟨rfl, rfl⟩ := cksN p1_1
  obtain ⟨_, _, _, p2, h2, rfl⟩ := shA h1
  obtain ⟨_, _, _, d2_0, p2_0, rfl⟩ := cksC p2
  obtain ⟨x2, rfl, rfl, gx2⟩ := ckI d2_0
  obtain ⟨_, _, _, d2_1, p2_1, rfl⟩ := cksC p2_0
  obtain ⟨x3, rfl, rfl, gx3⟩ := ckI d2_1
  obtain ⟨rfl, rfl⟩ := cksN p2_1
  obtain ⟨rfl, rfl⟩ := shN h2
  refine ⟨_, sX_ujoin ⟨x0, x1⟩ ⟨gx0, gx1⟩ ⟨x2, x3⟩ ⟨gx2, gx3⟩, fun ρ v0 he => ?_⟩
  have he' : ρ.i (v0 + 0) = sp.I key 0 [x0, x1, x2, x3] ∧ ρ.i (v0 + 1) = sp.I key 1 [x0, x1, x2, x3] ∧ True := he
  simp only [hI, hB] at he'
  obtain ⟨e0, e1, -⟩ := he'
  show some (.agg #[.int .u64 (ρ.i (v0 + 0)), .int .u64 (ρ.i (v0 + 1))] : Value) = _
  rw [e0, e1]
  rfl
def sT_imeet : Tr :=
(.leaf (.agg [.int .i64 (.mx (.var 0) (.var 2)), .int .i64 (.mn (.var 1) (.var 3))]))
def sP_imeet : Spec := ⟨fun k => match k with | _ => fun _ _ => 0, fun k => match k with | _ => fun _ _ => false⟩
set_option maxRecDepth 100000 in
theorem sR_imeet : funK ⟨tys_XbA, []⟩ 200 Try.f53 [.agg [.int .i64 (.var 0), .int .i64 (.var 1)], .agg [.int .i64 (.var 2), .int .i64 (.var 3)]] ⟨[], [], [some .i64, some .i64, some .i64, some .i64]⟩ = sT_imeet := by kernel_rfl
set_option maxRecDepth 100000 in
set_option maxHeartbeats 8000000 in
theorem sX_imeet (a : Pi) (ha : Pi.ok a) (b : Pi) (hb : Pi.ok b) : (∀ w, Calls Try.prog 53 #[.agg #[.int .i64 a.lo, .int .i64 a.hi], .agg #[.int .i64 b.lo, .int .i64 b.hi]] w fun e w' => e = .returned (.agg #[.int .i64 ((⟨max a.lo b.lo, min a.hi b.hi⟩ : Pi)).lo, .int .i64 ((⟨max a.lo b.lo, min a.hi b.hi⟩ : Pi)).hi]) ∧ Ext w w') ∧ valIn (.agg #[.int .i64 ((⟨max a.lo b.lo, min a.hi b.hi⟩ : Pi)).lo, .int .i64 ((⟨max a.lo b.lo, min a.hi b.hi⟩ : Pi)).hi]) = true := by
  refine fun_calls (cx := ⟨tys_XbA, []⟩) (sp := sP_imeet) (t := sT_imeet) (by kernel_rfl) tysok_XbA (fun _ h => (by cases h)) (keys_of (by kernel_rfl)) Try.func53 ⟨fun n => ([a.lo, a.hi, b.lo, b.hi] : List Int).getD n 0, fun n => ([false, false, false, false] : List Bool).getD n false⟩ sR_imeet (by kernel_rfl) ?_ rfl (by intro p hp; cases hp) ?_ ?_
  · intro n k hk
    have hlt : n < 4 := by
      rcases Nat.lt_or_ge n 4 with h | h
      · exact h
      · rw [List.getElem?_eq_none h] at hk; cases hk
    rcases (show n = 0 ∨ n = 1 ∨ n = 2 ∨ n = 3 by omega) with rfl | rfl | rfl | rfl
    · cases hk; exact ha.1
    · cases hk; exact ha.2
    · cases hk; exact hb.1
    · cases hk; exact hb.2
  · intro ρ hag
    have g0 : ρ.i 0 = a.lo := (hag 0 (by decide)).1.symm
    have g1 : ρ.i 1 = a.hi := (hag 1 (by decide)).1.symm
    have g2 : ρ.i 2 = b.lo := (hag 2 (by decide)).1.symm
    have g3 : ρ.i 3 = b.hi := (hag 3 (by decide)).1.symm
    show some ([.agg #[.int .i64 (ρ.i 0), .int .i64 (ρ.i 1)], .agg #[.int .i64 (ρ.i 2), .int .i64 (ρ.i 3)]] : List Value) = _
    rw [g0, g1, g2, g3]
  · intro ρ hag
    have g0 : ρ.i 0 = a.lo := (hag 0 (by decide)).1.symm
    have g1 : ρ.i 1 = a.hi := (hag 1 (by decide)).1.symm
    have g2 : ρ.i 2 = b.lo := (hag 2 (by decide)).1.symm
    have g3 : ρ.i 3 = b.hi := (hag 3 (by decide)).1.symm
    simp only [sT_imeet, Tr.asks, eqs, E.I, E.B, E.L, V.den, C.den, denL, den0, den0L, Option.map_some, Nat.add_zero, Nat.reduceAdd, and_true, Pi.eta, g0, g1, g2, g3]
def sM_imeet (key : Nat) : Sm := ⟨53, key, [(true, [.int .i64, .int .i64]), (true, [.int .i64, .int .i64])], [(true, [.int .i64, .int .i64])], false⟩
def sI_imeet : Nat → List Int → Int
  | 0, [x0, x1, x2, x3] => (fun (a : Pi) (b : Pi) => ((⟨max a.lo b.lo, min a.hi b.hi⟩ : Pi)).lo) ⟨x0, x1⟩ ⟨x2, x3⟩
  | 1, [x0, x1, x2, x3] => (fun (a : Pi) (b : Pi) => ((⟨max a.lo b.lo, min a.hi b.hi⟩ : Pi)).hi) ⟨x0, x1⟩ ⟨x2, x3⟩
  | _, _ => 0
def sB_imeet : Nat → List Int → Bool
  | _, _ => false
theorem sK_imeet {sp : Spec} {key : Nat} (hI : sp.I key = sI_imeet) (hB : sp.B key = sB_imeet) : SmOk Try.prog sp (sM_imeet key) := by
  refine SmOk.of (.inl ⟨run_enter Try.func53 (by kernel_rfl) (by kernel_rfl), fun xs vals h => ?_⟩) (.inr (.inl ⟨_, rfl⟩))
  obtain ⟨_, _, _, p1, h1, rfl⟩ := shA h
  obtain ⟨_, _, _, d1_0, p1_0, rfl⟩ := cksC p1
  obtain ⟨x0, rfl, rfl, gx0⟩ := ckI d1_0
  obtain ⟨_, _, _, d1_1, p1_1, rfl⟩ := cksC p1_0
  obtain ⟨x1, rfl, rfl, gx1⟩ := ckI d1_1
  obtain ⟨rfl, rfl⟩ := cksN p1_1
  obtain ⟨_, _, _, p2, h2, rfl⟩ := shA h1
  obtain ⟨_, _, _, d2_0, p2_0, rfl⟩ := cksC p2
  obtain ⟨x2, rfl, rfl, gx2⟩ := ckI d2_0
  obtain ⟨_, _, _, d2_1, p2_1, rfl⟩ := cksC p2_0
  obtain ⟨x3, rfl, rfl, gx3⟩ := ckI d2_1
  obtain ⟨rfl, rfl⟩ := cksN p2_1
  obtain ⟨rfl, rfl⟩ := shN h2
  refine ⟨_, sX_imeet ⟨x0, x1⟩ ⟨gx0, gx1⟩ ⟨x2, x3⟩ ⟨gx2, gx3⟩, fun ρ v0 he => ?_⟩
  have he' : ρ.i (v0 + 0) = sp.I key 0 [x0, x1, x2, x3] ∧ ρ.i (v0 + 1) = sp.I key 1 [x0, x1, x2, x3] ∧ True := he
  simp only [hI, hB] at he'
  obtain ⟨e0, e1, -⟩ := he'
  show some (.agg #[.int .i64 (ρ.i (v0 + 0)), .int .i64 (ρ.i (v0 + 1))] : Value) = _
  rw [e0, e1]
  rfl
def sT_ijoin : Tr :=
(.leaf (.agg [.int .i64 (.mn (.var 0) (.var 2)), .int .i64 (.mx (.var 1) (.var 3))]))
def sP_ijoin : Spec := ⟨fun k => match k with | _ => fun _ _ => 0, fun k => match k with | _ => fun _ _ => false⟩
set_option maxRecDepth 100000 in
theorem sR_ijoin : funK ⟨tys_XbA, []⟩ 200 Try.f69 [.agg [.int .i64 (.var 0), .int .i64 (.var 1)], .agg [.int .i64 (.var 2), .int .i64 (.var 3)]] ⟨[], [], [some .i64, some .i64, some .i64, some .i64]⟩ = sT_ijoin := by kernel_rfl
set_option maxRecDepth 100000 in
set_option maxHeartbeats 8000000 in
theorem sX_ijoin (a : Pi) (ha : Pi.ok a) (b : Pi) (hb : Pi.ok b) : (∀ w, Calls Try.prog 69 #[.agg #[.int .i64 a.lo, .int .i64 a.hi], .agg #[.int .i64 b.lo, .int .i64 b.hi]] w fun e w' => e = .returned (.agg #[.int .i64 ((⟨min a.lo b.lo, max a.hi b.hi⟩ : Pi)).lo, .int .i64 ((⟨min a.lo b.lo, max a.hi b.hi⟩ : Pi)).hi]) ∧ Ext w w') ∧ valIn (.agg #[.int .i64 ((⟨min a.lo b.lo, max a.hi b.hi⟩ : Pi)).lo, .int .i64 ((⟨min a.lo b.lo, max a.hi b.hi⟩ : Pi)).hi]) = true := by
  refine fun_calls (cx := ⟨tys_XbA, []⟩) (sp := sP_ijoin) (t := sT_ijoin) (by kernel_rfl) tysok_XbA (fun _ h => (by cases h)) (keys_of (by kernel_rfl)) Try.func69 ⟨fun n => ([a.lo, a.hi, b.lo, b.hi] : List Int).getD n 0, fun n => ([false, false, false, false] : List Bool).getD n false⟩ sR_ijoin (by kernel_rfl) ?_ rfl (by intro p hp; cases hp) ?_ ?_
  · intro n k hk
    have hlt : n < 4 := by
      rcases Nat.lt_or_ge n 4 with h | h
      · exact h
      · rw [List.getElem?_eq_none h] at hk; cases hk
    rcases (show n = 0 ∨ n = 1 ∨ n = 2 ∨ n = 3 by omega) with rfl | rfl | rfl | rfl
    · cases hk; exact ha.1
    · cases hk; exact ha.2
    · cases hk; exact hb.1
    · cases hk; exact hb.2
  · intro ρ hag
    have g0 : ρ.i 0 = a.lo := (hag 0 (by decide)).1.symm
    have g1 : ρ.i 1 = a.hi := (hag 1 (by decide)).1.symm
    have g2 : ρ.i 2 = b.lo := (hag 2 (by decide)).1.symm
    have g3 : ρ.i 3 = b.hi := (hag 3 (by decide)).1.symm
    show some ([.agg #[.int .i64 (ρ.i 0), .int .i64 (ρ.i 1)], .agg #[.int .i64 (ρ.i 2), .int .i64 (ρ.i 3)]] : List Value) = _
    rw [g0, g1, g2, g3]
  · intro ρ hag
    have g0 : ρ.i 0 = a.lo := (hag 0 (by decide)).1.symm
    have g1 : ρ.i 1 = a.hi := (hag 1 (by decide)).1.symm
    have g2 : ρ.i 2 = b.lo := (hag 2 (by decide)).1.symm
    have g3 : ρ.i 3 = b.hi := (hag 3 (by decide)).1.symm
    simp only [sT_ijoin, Tr.asks, eqs, E.I, E.B, E.L, V.den, C.den, denL, den0, den0L, Option.map_some, Nat.add_zero, Nat.reduceAdd, and_true, Pi.eta, g0, g1, g2, g3]
def sM_ijoin (key : Nat) : Sm := ⟨69, key, [(true, [.int .i64, .int .i64]), (true, [.int .i64, .int .i64])], [(true, [.int .i64, .int .i64])], false⟩
def sI_ijoin : Nat → List Int → Int
  | 0, [x0, x1, x2, x3] => (fun (a : Pi) (b : Pi) => ((⟨min a.lo b.lo, max a.hi b.hi⟩ : Pi)).lo) ⟨x0, x1⟩ ⟨x2, x3⟩
  | 1, [x0, x1, x2, x3] => (fun (a : Pi) (b : Pi) => ((⟨min a.lo b.lo, max a.hi b.hi⟩ : Pi)).hi) ⟨x0, x1⟩ ⟨x2, x3⟩
  | _, _ => 0
def sB_ijoin : Nat → List Int → Bool
  | _, _ => false
theorem sK_ijoin {sp : Spec} {key : Nat} (hI : sp.I key = sI_ijoin) (hB : sp.B key = sB_ijoin) : SmOk Try.prog sp (sM_ijoin key) := by
  refine SmOk.of (.inl ⟨run_enter Try.func69 (by kernel_rfl) (by kernel_rfl), fun xs vals h => ?_⟩) (.inr (.inl ⟨_, rfl⟩))
  obtain ⟨_, _, _, p1, h1, rfl⟩ := shA h
  obtain ⟨_, _, _, d1_0, p1_0, rfl⟩ := cksC p1
  obtain ⟨x0, rfl, rfl, gx0⟩ := ckI d1_0
  obtain ⟨_, _, _, d1_1, p1_1, rfl⟩ := cksC p1_0
  obtain ⟨x1, rfl, rfl, gx1⟩ := ckI d1_1
  obtain ⟨rfl, rfl⟩ := cksN p1_1
  obtain ⟨_, _, _, p2, h2, rfl⟩ := shA h1
  obtain ⟨_, _, _, d2_0, p2_0, rfl⟩ := cksC p2
  obtain ⟨x2, rfl, rfl, gx2⟩ := ckI d2_0
  obtain ⟨_, _, _, d2_1, p2_1, rfl⟩ := cksC p2_0
  obtain ⟨x3, rfl, rfl, gx3⟩ := ckI d2_1
  obtain ⟨rfl, rfl⟩ := cksN p2_1
  obtain ⟨rfl, rfl⟩ := shN h2
  refine ⟨_, sX_ijoin ⟨x0, x1⟩ ⟨gx0, gx1⟩ ⟨x2, x3⟩ ⟨gx2, gx3⟩, fun ρ v0 he => ?_⟩
  have he' : ρ.i (v0 + 0) = sp.I key 0 [x0, x1, x2, x3] ∧ ρ.i (v0 + 1) = sp.I key 1 [x0, x1, x2, x3] ∧ True := he
  simp only [hI, hB] at he'
  obtain ⟨e0, e1, -⟩ := he'
  show some (.agg #[.int .i64 (ρ.i (v0 + 0)), .int .i64 (ρ.i (v0 + 1))] : Value) = _
  rw [e0, e1]
  rfl
def sT_of : Tr :=
(.leaf (.agg [.int .u64 (.var 0), .int .u64 (.var 1), .int .i64 (.var 2), .int .i64 (.var 3)]))
def sP_of : Spec := ⟨fun k => match k with | _ => fun _ _ => 0, fun k => match k with | _ => fun _ _ => false⟩
set_option maxRecDepth 100000 in
theorem sR_of : funK ⟨tys_XbA, []⟩ 200 Try.f54 [.agg [.int .u64 (.var 0), .int .u64 (.var 1)], .agg [.int .i64 (.var 2), .int .i64 (.var 3)]] ⟨[], [], [some .u64, some .u64, some .i64, some .i64]⟩ = sT_of := by kernel_rfl
set_option maxRecDepth 100000 in
set_option maxHeartbeats 8000000 in
theorem sX_of (a : Pu) (ha : Pu.ok a) (b : Pi) (hb : Pi.ok b) : (∀ w, Calls Try.prog 54 #[.agg #[.int .u64 a.lo, .int .u64 a.hi], .agg #[.int .i64 b.lo, .int .i64 b.hi]] w fun e w' => e = .returned (.agg #[.int .u64 ((⟨a.lo, a.hi, b.lo, b.hi⟩ : Rg)).ul, .int .u64 ((⟨a.lo, a.hi, b.lo, b.hi⟩ : Rg)).uh, .int .i64 ((⟨a.lo, a.hi, b.lo, b.hi⟩ : Rg)).sl, .int .i64 ((⟨a.lo, a.hi, b.lo, b.hi⟩ : Rg)).sh]) ∧ Ext w w') ∧ valIn (.agg #[.int .u64 ((⟨a.lo, a.hi, b.lo, b.hi⟩ : Rg)).ul, .int .u64 ((⟨a.lo, a.hi, b.lo, b.hi⟩ : Rg)).uh, .int .i64 ((⟨a.lo, a.hi, b.lo, b.hi⟩ : Rg)).sl, .int .i64 ((⟨a.lo, a.hi, b.lo, b.hi⟩ : Rg)).sh]) = true := by
  refine fun_calls (cx := ⟨tys_XbA, []⟩) (sp := sP_of) (t := sT_of) (by kernel_rfl) tysok_XbA (fun _ h => (by cases h)) (keys_of (by kernel_rfl)) Try.func54 ⟨fun n => ([a.lo, a.hi, b.lo, b.hi] : List Int).getD n 0, fun n => ([false, false, false, false] : List Bool).getD n false⟩ sR_of (by kernel_rfl) ?_ rfl (by intro p hp; cases hp) ?_ ?_
  · intro n k hk
    have hlt : n < 4 := by
      rcases Nat.lt_or_ge n 4 with h | h
      · exact h
      · rw [List.getElem?_eq_none h] at hk; cases hk
    rcases (show n = 0 ∨ n = 1 ∨ n = 2 ∨ n = 3 by omega) with rfl | rfl | rfl | rfl
    · cases hk; exact ha.1
    · cases hk; exact ha.2
    · cases hk; exact hb.1
    · cases hk; exact hb.2
  · intro ρ hag
    have g0 : ρ.i 0 = a.lo := (hag 0 (by decide)).1.symm
    have g1 : ρ.i 1 = a.hi := (hag 1 (by decide)).1.symm
    have g2 : ρ.i 2 = b.lo := (hag 2 (by decide)).1.symm
    have g3 : ρ.i 3 = b.hi := (hag 3 (by decide)).1.symm
    show some ([.agg #[.int .u64 (ρ.i 0), .int .u64 (ρ.i 1)], .agg #[.int .i64 (ρ.i 2), .int .i64 (ρ.i 3)]] : List Value) = _
    rw [g0, g1, g2, g3]
  · intro ρ hag
    have g0 : ρ.i 0 = a.lo := (hag 0 (by decide)).1.symm
    have g1 : ρ.i 1 = a.hi := (hag 1 (by decide)).1.symm
    have g2 : ρ.i 2 = b.lo := (hag 2 (by decide)).1.symm
    have g3 : ρ.i 3 = b.hi := (hag 3 (by decide)).1.symm
    simp only [sT_of, Tr.asks, eqs, E.I, E.B, E.L, V.den, C.den, denL, den0, den0L, Option.map_some, Nat.add_zero, Nat.reduceAdd, and_true, Pi.eta, Pu.eta, g0, g1, g2, g3]
def sM_of (key : Nat) : Sm := ⟨54, key, [(true, [.int .u64, .int .u64]), (true, [.int .i64, .int .i64])], [(true, [.int .u64, .int .u64, .int .i64, .int .i64])], false⟩
def sI_of : Nat → List Int → Int
  | 0, [x0, x1, x2, x3] => (fun (a : Pu) (b : Pi) => ((⟨a.lo, a.hi, b.lo, b.hi⟩ : Rg)).ul) ⟨x0, x1⟩ ⟨x2, x3⟩
  | 1, [x0, x1, x2, x3] => (fun (a : Pu) (b : Pi) => ((⟨a.lo, a.hi, b.lo, b.hi⟩ : Rg)).uh) ⟨x0, x1⟩ ⟨x2, x3⟩
  | 2, [x0, x1, x2, x3] => (fun (a : Pu) (b : Pi) => ((⟨a.lo, a.hi, b.lo, b.hi⟩ : Rg)).sl) ⟨x0, x1⟩ ⟨x2, x3⟩
  | 3, [x0, x1, x2, x3] => (fun (a : Pu) (b : Pi) => ((⟨a.lo, a.hi, b.lo, b.hi⟩ : Rg)).sh) ⟨x0, x1⟩ ⟨x2, x3⟩
  | _, _ => 0
def sB_of : Nat → List Int → Bool
  | _, _ => false
theorem sK_of {sp : Spec} {key : Nat} (hI : sp.I key = sI_of) (hB : sp.B key = sB_of) : SmOk Try.prog sp (sM_of key) := by
  refine SmOk.of (.inl ⟨run_enter Try.func54 (by kernel_rfl) (by kernel_rfl), fun xs vals h => ?_⟩) (.inr (.inl ⟨_, rfl⟩))
  obtain ⟨_, _, _, p1, h1, rfl⟩ := shA h
  obtain ⟨_, _, _, d1_0, p1_0, rfl⟩ := cksC p1
  obtain ⟨x0, rfl, rfl, gx0⟩ := ckI d1_0
  obtain ⟨_, _, _, d1_1, p1_1, rfl⟩ := cksC p1_0
  obtain ⟨x1, rfl, rfl, gx1⟩ := ckI d1_1
  obtain ⟨rfl, rfl⟩ := cksN p1_1
  obtain ⟨_, _, _, p2, h2, rfl⟩ := shA h1
  obtain ⟨_, _, _, d2_0, p2_0, rfl⟩ := cksC p2
  obtain ⟨x2, rfl, rfl, gx2⟩ := ckI d2_0
  obtain ⟨_, _, _, d2_1, p2_1, rfl⟩ := cksC p2_0
  obtain ⟨x3, rfl, rfl, gx3⟩ := ckI d2_1
  obtain ⟨rfl, rfl⟩ := cksN p2_1
  obtain ⟨rfl, rfl⟩ := shN h2
  refine ⟨_, sX_of ⟨x0, x1⟩ ⟨gx0, gx1⟩ ⟨x2, x3⟩ ⟨gx2, gx3⟩, fun ρ v0 he => ?_⟩
  have he' : ρ.i (v0 + 0) = sp.I key 0 [x0, x1, x2, x3] ∧ ρ.i (v0 + 1) = sp.I key 1 [x0, x1, x2, x3] ∧ ρ.i (v0 + 2) = sp.I key 2 [x0, x1, x2, x3] ∧ ρ.i (v0 + 3) = sp.I key 3 [x0, x1, x2, x3] ∧ True := he
  simp only [hI, hB] at he'
  obtain ⟨e0, e1, e2, e3, -⟩ := he'
  show some (.agg #[.int .u64 (ρ.i (v0 + 0)), .int .u64 (ρ.i (v0 + 1)), .int .i64 (ρ.i (v0 + 2)), .int .i64 (ρ.i (v0 + 3))] : Value) = _
  rw [e0, e1, e2, e3]
  rfl
def sT_may : Tr :=
(.call 0 [.int .u64, .int .u64] (.cons (.var 0) (.cons (.var 1) (.cons (.var 2) (.cons (.var 3) .nil)))) 4
 (.call 2 [.bool] (.cons (.var 4) (.cons (.var 5) .nil)) 6
 (.br (.bvar 6)
 (.call 1 [.int .i64, .int .i64] (.cons (.var 0) (.cons (.var 1) (.cons (.var 2) (.cons (.var 3) .nil)))) 7
  (.call 3 [.bool] (.cons (.var 7) (.cons (.var 8) .nil)) 9
  (.leaf (.one (.bool (.bvar 9))))))
 (.leaf (.one (.bool (.tt false)))))))
def sP_may : Spec := ⟨fun k => match k with | 0 => sI_uns | 1 => sI_sig | 2 => sI_umay | 3 => sI_imay | _ => fun _ _ => 0, fun k => match k with | 0 => sB_uns | 1 => sB_sig | 2 => sB_umay | 3 => sB_imay | _ => fun _ _ => false⟩
set_option maxRecDepth 100000 in
theorem sR_may : funK ⟨tys_XbA, [sM_uns 0, sM_sig 1, sM_umay 2, sM_imay 3]⟩ 200 Try.f16 [.agg [.int .u64 (.var 0), .int .u64 (.var 1), .int .i64 (.var 2), .int .i64 (.var 3)]] ⟨[], [], [some .u64, some .u64, some .i64, some .i64]⟩ = sT_may := by kernel_rfl
set_option maxRecDepth 100000 in
set_option maxHeartbeats 8000000 in
theorem sX_may (a : Rg) (ha : Rg.ok a) : (∀ w, Calls Try.prog 16 #[.agg #[.int .u64 a.ul, .int .u64 a.uh, .int .i64 a.sl, .int .i64 a.sh]] w fun e w' => e = .returned (.bool (bmay a)) ∧ Ext w w') ∧ valIn (.bool (bmay a)) = true := by
  refine fun_calls (cx := ⟨tys_XbA, [sM_uns 0, sM_sig 1, sM_umay 2, sM_imay 3]⟩) (sp := sP_may) (t := sT_may) (by kernel_rfl) tysok_XbA (List.forall_mem_cons.2 ⟨sK_uns rfl rfl, List.forall_mem_cons.2 ⟨sK_sig rfl rfl, List.forall_mem_cons.2 ⟨sK_umay rfl rfl, List.forall_mem_cons.2 ⟨sK_imay rfl rfl, fun _ h => (by cases h)⟩⟩⟩⟩) (keys_of (by kernel_rfl)) Try.func16 ⟨fun n => ([a.ul, a.uh, a.sl, a.sh] : List Int).getD n 0, fun n => ([false, false, false, false] : List Bool).getD n false⟩ sR_may (by kernel_rfl) ?_ rfl (by intro p hp; cases hp) ?_ ?_
  · intro n k hk
    have hlt : n < 4 := by
      rcases Nat.lt_or_ge n 4 with h | h
      · exact h
      · rw [List.getElem?_eq_none h] at hk; cases hk
    rcases (show n = 0 ∨ n = 1 ∨ n = 2 ∨ n = 3 by omega) with rfl | rfl | rfl | rfl
    · cases hk; exact ha.1
    · cases hk; exact ha.2.1
    · cases hk; exact ha.2.2.1
    · cases hk; exact ha.2.2.2
  · intro ρ hag
    have g0 : ρ.i 0 = a.ul := (hag 0 (by decide)).1.symm
    have g1 : ρ.i 1 = a.uh := (hag 1 (by decide)).1.symm
    have g2 : ρ.i 2 = a.sl := (hag 2 (by decide)).1.symm
    have g3 : ρ.i 3 = a.sh := (hag 3 (by decide)).1.symm
    show some ([.agg #[.int .u64 (ρ.i 0), .int .u64 (ρ.i 1), .int .i64 (ρ.i 2), .int .i64 (ρ.i 3)]] : List Value) = _
    rw [g0, g1, g2, g3]
  · intro ρ hag
    have g0 : ρ.i 0 = a.ul := (hag 0 (by decide)).1.symm
    have g1 : ρ.i 1 = a.uh := (hag 1 (by decide)).1.symm
    have g2 : ρ.i 2 = a.sl := (hag 2 (by decide)).1.symm
    have g3 : ρ.i 3 = a.sh := (hag 3 (by decide)).1.symm
    simp only [sT_may, Tr.asks, eqs, E.I, E.B, E.L, V.den, C.den, denL, den0, den0L, Option.map_some, Nat.add_zero, Nat.reduceAdd, and_true, Rg.eta, g0, g1, g2, g3]
    simp only [sP_may, b01, Pi.eta, Pu.eta, Rg.eta, sI_uns, sB_uns, sI_sig, sB_sig, sI_umay, sB_umay, sI_imay, sB_imay]
    rintro ⟨e4, e5⟩
    (try simp only [e4, e5, Pi.eta, Pu.eta, Rg.eta])
    (try clear e4 e5)
    intro e6
    (try simp only [e6, Pi.eta, Pu.eta, Rg.eta])
    (try clear e6)
    refine ⟨fun c0 => ?_, fun c0 => ?_⟩
    · skip
      rintro ⟨e7, e8⟩
      (try simp only [e7, e8, Pi.eta, Pu.eta, Rg.eta])
      (try clear e7 e8)
      intro e9
      (try simp only [e9, Pi.eta, Pu.eta, Rg.eta])
      (try clear e9)
      all_goals
        refine congrArg some ?_
        (unfold bmay; simp_all; try (intros; omega))
    · skip
      all_goals
        refine congrArg some ?_
        (unfold bmay; simp_all; try (intros; omega))
def sM_may (key : Nat) : Sm := ⟨16, key, [(true, [.int .u64, .int .u64, .int .i64, .int .i64])], [(false, [.bool])], false⟩
def sI_may : Nat → List Int → Int
  | _, _ => 0
def sB_may : Nat → List Int → Bool
  | 0, [x0, x1, x2, x3] => (fun (a : Rg) => bmay a) ⟨x0, x1, x2, x3⟩
  | _, _ => false
theorem sK_may {sp : Spec} {key : Nat} (hI : sp.I key = sI_may) (hB : sp.B key = sB_may) : SmOk Try.prog sp (sM_may key) := by
  refine SmOk.of (.inl ⟨run_enter Try.func16 (by kernel_rfl) (by kernel_rfl), fun xs vals h => ?_⟩) (.inr (.inr ⟨_, rfl⟩))
  obtain ⟨_, _, _, p1, h1, rfl⟩ := shA h
  obtain ⟨_, _, _, d1_0, p1_0, rfl⟩ := cksC p1
  obtain ⟨x0, rfl, rfl, gx0⟩ := ckI d1_0
  obtain ⟨_, _, _, d1_1, p1_1, rfl⟩ := cksC p1_0
  obtain ⟨x1, rfl, rfl, gx1⟩ := ckI d1_1
  obtain ⟨_, _, _, d1_2, p1_2, rfl⟩ := cksC p1_1
  obtain ⟨x2, rfl, rfl, gx2⟩ := ckI d1_2
  obtain ⟨_, _, _, d1_3, p1_3, rfl⟩ := cksC p1_2
  obtain ⟨x3, rfl, rfl, gx3⟩ := ckI d1_3
  obtain ⟨rfl, rfl⟩ := cksN p1_3
  obtain ⟨rfl, rfl⟩ := shN h1
  refine ⟨_, sX_may ⟨x0, x1, x2, x3⟩ ⟨gx0, gx1, gx2, gx3⟩, fun ρ v0 he => ?_⟩
  have he' : ρ.b (v0 + 0) = sp.B key 0 [x0, x1, x2, x3] ∧ True := he
  simp only [hI, hB] at he'
  obtain ⟨e0, -⟩ := he'
  show some (.bool (ρ.b (v0 + 0)) : Value) = _
  rw [e0]
  rfl
def sT_all : Tr :=
(.call 0 [.int .u64, .int .u64, .int .i64, .int .i64] (.cons (.lit 0) (.cons (.lit 18446744073709551615) (.cons (.lit (-9223372036854775808)) (.cons (.lit 9223372036854775807) .nil)))) 0
 (.leaf (.agg [.int .u64 (.var 0), .int .u64 (.var 1), .int .i64 (.var 2), .int .i64 (.var 3)])))
def sP_all : Spec := ⟨fun k => match k with | 0 => sI_of | _ => fun _ _ => 0, fun k => match k with | 0 => sB_of | _ => fun _ _ => false⟩
set_option maxRecDepth 100000 in
theorem sR_all : funK ⟨tys_XbA, [sM_of 0]⟩ 200 Try.f13 [] ⟨[], [], []⟩ = sT_all := by kernel_rfl
set_option maxRecDepth 100000 in
set_option maxHeartbeats 8000000 in
theorem sX_all  : (∀ w, Calls Try.prog 13 #[] w fun e w' => e = .returned (.agg #[.int .u64 ball.ul, .int .u64 ball.uh, .int .i64 ball.sl, .int .i64 ball.sh]) ∧ Ext w w') ∧ valIn (.agg #[.int .u64 ball.ul, .int .u64 ball.uh, .int .i64 ball.sl, .int .i64 ball.sh]) = true := by
  refine fun_calls (cx := ⟨tys_XbA, [sM_of 0]⟩) (sp := sP_all) (t := sT_all) (by kernel_rfl) tysok_XbA (List.forall_mem_cons.2 ⟨sK_of rfl rfl, fun _ h => (by cases h)⟩) (keys_of (by kernel_rfl)) Try.func13 ⟨fun n => ([] : List Int).getD n 0, fun n => ([] : List Bool).getD n false⟩ sR_all (by kernel_rfl) ?_ rfl (by intro p hp; cases hp) ?_ ?_
  · intro n k hk
    have hlt : n < 0 := by
      rcases Nat.lt_or_ge n 0 with h | h
      · exact h
      · rw [List.getElem?_eq_none h] at hk; cases hk
    omega
  · intro ρ hag
    show some ([] : List Value) = _
    rfl
  · intro ρ hag
    simp only [sT_all, Tr.asks, eqs, E.I, E.B, E.L, V.den, C.den, denL, den0, den0L, Option.map_some, Nat.add_zero, Nat.reduceAdd, and_true]
    simp only [sP_all, b01, Pi.eta, Pu.eta, Rg.eta, sI_of, sB_of]
    rintro ⟨e0, e1, e2, e3⟩
    (try simp only [e0, e1, e2, e3, Pi.eta, Pu.eta, Rg.eta])
    (try clear e0 e1 e2 e3)
    all_goals
      refine congrArg some ?_
      rfl
def sM_all (key : Nat) : Sm := ⟨13, key, [], [(true, [.int .u64, .int .u64, .int .i64, .int .i64])], false⟩
def sI_all : Nat → List Int → Int
  | 0, [] => ball.ul
  | 1, [] => ball.uh
  | 2, [] => ball.sl
  | 3, [] => ball.sh
  | _, _ => 0
def sB_all : Nat → List Int → Bool
  | _, _ => false
theorem sK_all {sp : Spec} {key : Nat} (hI : sp.I key = sI_all) (hB : sp.B key = sB_all) : SmOk Try.prog sp (sM_all key) := by
  refine SmOk.of (.inl ⟨run_enter Try.func13 (by kernel_rfl) (by kernel_rfl), fun xs vals h => ?_⟩) (.inr (.inl ⟨_, rfl⟩))
  obtain ⟨rfl, rfl⟩ := shN h
  refine ⟨_, sX_all , fun ρ v0 he => ?_⟩
  have he' : ρ.i (v0 + 0) = sp.I key 0 [] ∧ ρ.i (v0 + 1) = sp.I key 1 [] ∧ ρ.i (v0 + 2) = sp.I key 2 [] ∧ ρ.i (v0 + 3) = sp.I key 3 [] ∧ True := he
  simp only [hI, hB] at he'
  obtain ⟨e0, e1, e2, e3, -⟩ := he'
  show some (.agg #[.int .u64 (ρ.i (v0 + 0)), .int .u64 (ρ.i (v0 + 1)), .int .i64 (ρ.i (v0 + 2)), .int .i64 (ρ.i (v0 + 3))] : Value) = _
  rw [e0, e1, e2, e3]
  rfl
def sT_one : Tr :=
(.call 0 [.int .u64, .int .u64, .int .i64, .int .i64] (.cons (.var 0) (.cons (.var 0) (.cons (.conv .i64 (.var 0)) (.cons (.conv .i64 (.var 0)) .nil)))) 1
 (.leaf (.agg [.int .u64 (.var 1), .int .u64 (.var 2), .int .i64 (.var 3), .int .i64 (.var 4)])))
def sP_one : Spec := ⟨fun k => match k with | 0 => sI_of | _ => fun _ _ => 0, fun k => match k with | 0 => sB_of | _ => fun _ _ => false⟩
set_option maxRecDepth 100000 in
theorem sR_one : funK ⟨tys_XbA, [sM_of 0]⟩ 200 Try.f25 [.one (.int .u64 (.var 0))] ⟨[], [], [some .u64]⟩ = sT_one := by kernel_rfl
set_option maxRecDepth 100000 in
set_option maxHeartbeats 8000000 in
theorem sX_one (v : Int) (hv : inK .u64 v = true) : (∀ w, Calls Try.prog 25 #[.int .u64 v] w fun e w' => e = .returned (.agg #[.int .u64 (bone v).ul, .int .u64 (bone v).uh, .int .i64 (bone v).sl, .int .i64 (bone v).sh]) ∧ Ext w w') ∧ valIn (.agg #[.int .u64 (bone v).ul, .int .u64 (bone v).uh, .int .i64 (bone v).sl, .int .i64 (bone v).sh]) = true := by
  refine fun_calls (cx := ⟨tys_XbA, [sM_of 0]⟩) (sp := sP_one) (t := sT_one) (by kernel_rfl) tysok_XbA (List.forall_mem_cons.2 ⟨sK_of rfl rfl, fun _ h => (by cases h)⟩) (keys_of (by kernel_rfl)) Try.func25 ⟨fun n => ([v] : List Int).getD n 0, fun n => ([false] : List Bool).getD n false⟩ sR_one (by kernel_rfl) ?_ rfl (by intro p hp; cases hp) ?_ ?_
  · intro n k hk
    have hlt : n < 1 := by
      rcases Nat.lt_or_ge n 1 with h | h
      · exact h
      · rw [List.getElem?_eq_none h] at hk; cases hk
    rcases (show n = 0 by omega) with rfl
    · cases hk; exact hv
  · intro ρ hag
    have g0 : ρ.i 0 = v := (hag 0 (by decide)).1.symm
    show some ([.int .u64 (ρ.i 0)] : List Value) = _
    rw [g0]
  · intro ρ hag
    have g0 : ρ.i 0 = v := (hag 0 (by decide)).1.symm
    simp only [sT_one, Tr.asks, eqs, E.I, E.B, E.L, V.den, C.den, denL, den0, den0L, Option.map_some, Nat.add_zero, Nat.reduceAdd, and_true, g0]
    simp only [sP_one, b01, Pi.eta, Pu.eta, Rg.eta, sI_of, sB_of]
    rintro ⟨e1, e2, e3, e4⟩
    (try simp only [e1, e2, e3, e4, Pi.eta, Pu.eta, Rg.eta])
    (try clear e1 e2 e3 e4)
    all_goals
      refine congrArg some ?_
      simp [bone, s64_wrap]
def sM_one (key : Nat) : Sm := ⟨25, key, [(false, [.int .u64])], [(true, [.int .u64, .int .u64, .int .i64, .int .i64])], false⟩
def sI_one : Nat → List Int → Int
  | 0, [x0] => (fun (v : Int) => (bone v).ul) x0
  | 1, [x0] => (fun (v : Int) => (bone v).uh) x0
  | 2, [x0] => (fun (v : Int) => (bone v).sl) x0
  | 3, [x0] => (fun (v : Int) => (bone v).sh) x0
  | _, _ => 0
def sB_one : Nat → List Int → Bool
  | _, _ => false
theorem sK_one {sp : Spec} {key : Nat} (hI : sp.I key = sI_one) (hB : sp.B key = sB_one) : SmOk Try.prog sp (sM_one key) := by
  refine SmOk.of (.inl ⟨run_enter Try.func25 (by kernel_rfl) (by kernel_rfl), fun xs vals h => ?_⟩) (.inr (.inl ⟨_, rfl⟩))
  obtain ⟨_, _, _, d1, h1, rfl⟩ := shO h
  obtain ⟨x0, rfl, rfl, gx0⟩ := ckI d1
  obtain ⟨rfl, rfl⟩ := shN h1
  refine ⟨_, sX_one x0 gx0, fun ρ v0 he => ?_⟩
  have he' : ρ.i (v0 + 0) = sp.I key 0 [x0] ∧ ρ.i (v0 + 1) = sp.I key 1 [x0] ∧ ρ.i (v0 + 2) = sp.I key 2 [x0] ∧ ρ.i (v0 + 3) = sp.I key 3 [x0] ∧ True := he
  simp only [hI, hB] at he'
  obtain ⟨e0, e1, e2, e3, -⟩ := he'
  show some (.agg #[.int .u64 (ρ.i (v0 + 0)), .int .u64 (ρ.i (v0 + 1)), .int .i64 (ρ.i (v0 + 2)), .int .i64 (ρ.i (v0 + 3))] : Value) = _
  rw [e0, e1, e2, e3]
  rfl
def sT_has : Tr :=
(.call 0 [.bool] (.cons (.var 0) (.cons (.var 1) (.cons (.var 2) (.cons (.var 3) .nil)))) 5
 (.br (.bvar 5)
 (.call 1 [.int .u64, .int .u64] (.cons (.var 0) (.cons (.var 1) (.cons (.var 2) (.cons (.var 3) .nil)))) 6
  (.call 3 [.bool] (.cons (.var 6) (.cons (.var 7) (.cons (.var 4) .nil))) 8
  (.br (.bvar 8)
  (.call 2 [.int .i64, .int .i64] (.cons (.var 0) (.cons (.var 1) (.cons (.var 2) (.cons (.var 3) .nil)))) 9
   (.call 4 [.bool] (.cons (.var 9) (.cons (.var 10) (.cons (.conv .i64 (.var 4)) .nil))) 11
   (.leaf (.one (.bool (.bvar 11))))))
  (.leaf (.one (.bool (.tt false)))))))
 (.leaf (.one (.bool (.tt false))))))
def sP_has : Spec := ⟨fun k => match k with | 0 => sI_may | 1 => sI_uns | 2 => sI_sig | 3 => sI_uhas | 4 => sI_ihas | _ => fun _ _ => 0, fun k => match k with | 0 => sB_may | 1 => sB_uns | 2 => sB_sig | 3 => sB_uhas | 4 => sB_ihas | _ => fun _ _ => false⟩
set_option maxRecDepth 100000 in
theorem sR_has : funK ⟨tys_XbA, [sM_may 0, sM_uns 1, sM_sig 2, sM_uhas 3, sM_ihas 4]⟩ 200 Try.f12 [.agg [.int .u64 (.var 0), .int .u64 (.var 1), .int .i64 (.var 2), .int .i64 (.var 3)], .one (.int .u64 (.var 4))] ⟨[], [], [some .u64, some .u64, some .i64, some .i64, some .u64]⟩ = sT_has := by kernel_rfl
set_option maxRecDepth 100000 in
set_option maxHeartbeats 8000000 in
theorem sX_has (a : Rg) (ha : Rg.ok a) (v : Int) (hv : inK .u64 v = true) : (∀ w, Calls Try.prog 12 #[.agg #[.int .u64 a.ul, .int .u64 a.uh, .int .i64 a.sl, .int .i64 a.sh], .int .u64 v] w fun e w' => e = .returned (.bool (bhas a v)) ∧ Ext w w') ∧ valIn (.bool (bhas a v)) = true := by
  refine fun_calls (cx := ⟨tys_XbA, [sM_may 0, sM_uns 1, sM_sig 2, sM_uhas 3, sM_ihas 4]⟩) (sp := sP_has) (t := sT_has) (by kernel_rfl) tysok_XbA (List.forall_mem_cons.2 ⟨sK_may rfl rfl, List.forall_mem_cons.2 ⟨sK_uns rfl rfl, List.forall_mem_cons.2 ⟨sK_sig rfl rfl, List.forall_mem_cons.2 ⟨sK_uhas rfl rfl, List.forall_mem_cons.2 ⟨sK_ihas rfl rfl, fun _ h => (by cases h)⟩⟩⟩⟩⟩) (keys_of (by kernel_rfl)) Try.func12 ⟨fun n => ([a.ul, a.uh, a.sl, a.sh, v] : List Int).getD n 0, fun n => ([false, false, false, false, false] : List Bool).getD n false⟩ sR_has (by kernel_rfl) ?_ rfl (by intro p hp; cases hp) ?_ ?_
  · intro n k hk
    have hlt : n < 5 := by
      rcases Nat.lt_or_ge n 5 with h | h
      · exact h
      · rw [List.getElem?_eq_none h] at hk; cases hk
    rcases (show n = 0 ∨ n = 1 ∨ n = 2 ∨ n = 3 ∨ n = 4 by omega) with rfl | rfl | rfl | rfl | rfl
    · cases hk; exact ha.1
    · cases hk; exact ha.2.1
    · cases hk; exact ha.2.2.1
    · cases hk; exact ha.2.2.2
    · cases hk; exact hv
  · intro ρ hag
    have g0 : ρ.i 0 = a.ul := (hag 0 (by decide)).1.symm
    have g1 : ρ.i 1 = a.uh := (hag 1 (by decide)).1.symm
    have g2 : ρ.i 2 = a.sl := (hag 2 (by decide)).1.symm
    have g3 : ρ.i 3 = a.sh := (hag 3 (by decide)).1.symm
    have g4 : ρ.i 4 = v := (hag 4 (by decide)).1.symm
    show some ([.agg #[.int .u64 (ρ.i 0), .int .u64 (ρ.i 1), .int .i64 (ρ.i 2), .int .i64 (ρ.i 3)], .int .u64 (ρ.i 4)] : List Value) = _
    rw [g0, g1, g2, g3, g4]
  · intro ρ hag
    have g0 : ρ.i 0 = a.ul := (hag 0 (by decide)).1.symm
    have g1 : ρ.i 1 = a.uh := (hag 1 (by decide)).1.symm
    have g2 : ρ.i 2 = a.sl := (hag 2 (by decide)).1.symm
    have g3 : ρ.i 3 = a.sh := (hag 3 (by decide)).1.symm
    have g4 : ρ.i 4 = v := (hag 4 (by decide)).1.symm
    simp only [sT_has, Tr.asks, eqs, E.I, E.B, E.L, V.den, C.den, denL, den0, den0L, Option.map_some, Nat.add_zero, Nat.reduceAdd, and_true, Rg.eta, g0, g1, g2, g3, g4]
    simp only [sP_has, b01, Pi.eta, Pu.eta, Rg.eta, sI_may, sB_may, sI_uns, sB_uns, sI_sig, sB_sig, sI_uhas, sB_uhas, sI_ihas, sB_ihas]
    intro e5
    (try simp only [e5, Pi.eta, Pu.eta, Rg.eta])
    (try clear e5)
    refine ⟨fun c0 => ?_, fun c0 => ?_⟩
    · skip
      rintro ⟨e6, e7⟩
      (try simp only [e6, e7, Pi.eta, Pu.eta, Rg.eta])
      (try clear e6 e7)
      intro e8
      (try simp only [e8, Pi.eta, Pu.eta, Rg.eta])
      (try clear e8)
      refine ⟨fun c1 => ?_, fun c1 => ?_⟩
      · skip
        rintro ⟨e9, e10⟩
        (try simp only [e9, e10, Pi.eta, Pu.eta, Rg.eta])
        (try clear e9 e10)
        intro e11
        (try simp only [e11, Pi.eta, Pu.eta, Rg.eta])
        (try clear e11)
        all_goals
          refine congrArg some ?_
          (unfold bhas; simp_all [s64_wrap]; try (intros; omega))
      · skip
        all_goals
          refine congrArg some ?_
          (unfold bhas; simp_all [s64_wrap]; try (intros; omega))
    · skip
      all_goals
        refine congrArg some ?_
        (unfold bhas; simp_all [s64_wrap]; try (intros; omega))
def sM_has (key : Nat) : Sm := ⟨12, key, [(true, [.int .u64, .int .u64, .int .i64, .int .i64]), (false, [.int .u64])], [(false, [.bool])], false⟩
def sI_has : Nat → List Int → Int
  | _, _ => 0
def sB_has : Nat → List Int → Bool
  | 0, [x0, x1, x2, x3, x4] => (fun (a : Rg) (v : Int) => bhas a v) ⟨x0, x1, x2, x3⟩ x4
  | _, _ => false
theorem sK_has {sp : Spec} {key : Nat} (hI : sp.I key = sI_has) (hB : sp.B key = sB_has) : SmOk Try.prog sp (sM_has key) := by
  refine SmOk.of (.inl ⟨run_enter Try.func12 (by kernel_rfl) (by kernel_rfl), fun xs vals h => ?_⟩) (.inr (.inr ⟨_, rfl⟩))
  obtain ⟨_, _, _, p1, h1, rfl⟩ := shA h
  obtain ⟨_, _, _, d1_0, p1_0, rfl⟩ := cksC p1
  obtain ⟨x0, rfl, rfl, gx0⟩ := ckI d1_0
  obtain ⟨_, _, _, d1_1, p1_1, rfl⟩ := cksC p1_0
  obtain ⟨x1, rfl, rfl, gx1⟩ := ckI d1_1
  obtain ⟨_, _, _, d1_2, p1_2, rfl⟩ := cksC p1_1
  obtain ⟨x2, rfl, rfl, gx2⟩ := ckI d1_2
  obtain ⟨_, _, _, d1_3, p1_3, rfl⟩ := cksC p1_2
  obtain ⟨x3, rfl, rfl, gx3⟩ := ckI d1_3
  obtain ⟨rfl, rfl⟩ := cksN p1_3
  obtain ⟨_, _, _, d2, h2, rfl⟩ := shO h1
  obtain ⟨x4, rfl, rfl, gx4⟩ := ckI d2
  obtain ⟨rfl, rfl⟩ := shN h2
  refine ⟨_, sX_has ⟨x0, x1, x2, x3⟩ ⟨gx0, gx1, gx2, gx3⟩ x4 gx4, fun ρ v0 he => ?_⟩
  have he' : ρ.b (v0 + 0) = sp.B key 0 [x0, x1, x2, x3, x4] ∧ True := he
  simp only [hI, hB] at he'
  obtain ⟨e0, -⟩ := he'
  show some (.bool (ρ.b (v0 + 0)) : Value) = _
  rw [e0]
  rfl
def sT_single : Tr :=
(.br (.eq (.var 0) (.var 1))
 (.call 0 [.bool] (.cons (.var 0) (.cons (.var 1) (.cons (.var 2) (.cons (.var 3) (.cons (.var 0) .nil))))) 4
  (.br (.bvar 4)
  (.leaf (.tup [(false, [.int .u64 (.var 0)]), (false, [.bool (.tt true)])]))
  (.leaf (.tup [(false, [.int .u64 (.lit 0)]), (false, [.bool (.tt false)])]))))
 (.leaf (.tup [(false, [.int .u64 (.lit 0)]), (false, [.bool (.tt false)])])))
def sP_single : Spec := ⟨fun k => match k with | 0 => sI_has | _ => fun _ _ => 0, fun k => match k with | 0 => sB_has | _ => fun _ _ => false⟩
set_option maxRecDepth 100000 in
theorem sR_single : funK ⟨tys_XbA, [sM_has 0]⟩ 200 Try.f15 [.agg [.int .u64 (.var 0), .int .u64 (.var 1), .int .i64 (.var 2), .int .i64 (.var 3)]] ⟨[], [], [some .u64, some .u64, some .i64, some .i64]⟩ = sT_single := by kernel_rfl
set_option maxRecDepth 100000 in
set_option maxHeartbeats 8000000 in
theorem sX_single (a : Rg) (ha : Rg.ok a) : (∀ w, Calls Try.prog 15 #[.agg #[.int .u64 a.ul, .int .u64 a.uh, .int .i64 a.sl, .int .i64 a.sh]] w fun e w' => e = .returned (.tuple #[.int .u64 (bsingle a), .bool (bones a)]) ∧ Ext w w') ∧ valIn (.tuple #[.int .u64 (bsingle a), .bool (bones a)]) = true := by
  refine fun_calls (cx := ⟨tys_XbA, [sM_has 0]⟩) (sp := sP_single) (t := sT_single) (by kernel_rfl) tysok_XbA (List.forall_mem_cons.2 ⟨sK_has rfl rfl, fun _ h => (by cases h)⟩) (keys_of (by kernel_rfl)) Try.func15 ⟨fun n => ([a.ul, a.uh, a.sl, a.sh] : List Int).getD n 0, fun n => ([false, false, false, false] : List Bool).getD n false⟩ sR_single (by kernel_rfl) ?_ rfl (by intro p hp; cases hp) ?_ ?_
  · intro n k hk
    have hlt : n < 4 := by
      rcases Nat.lt_or_ge n 4 with h | h
      · exact h
      · rw [List.getElem?_eq_none h] at hk; cases hk
    rcases (show n = 0 ∨ n = 1 ∨ n = 2 ∨ n = 3 by omega) with rfl | rfl | rfl | rfl
    · cases hk; exact ha.1
    · cases hk; exact ha.2.1
    · cases hk; exact ha.2.2.1
    · cases hk; exact ha.2.2.2
  · intro ρ hag
    have g0 : ρ.i 0 = a.ul := (hag 0 (by decide)).1.symm
    have g1 : ρ.i 1 = a.uh := (hag 1 (by decide)).1.symm
    have g2 : ρ.i 2 = a.sl := (hag 2 (by decide)).1.symm
    have g3 : ρ.i 3 = a.sh := (hag 3 (by decide)).1.symm
    show some ([.agg #[.int .u64 (ρ.i 0), .int .u64 (ρ.i 1), .int .i64 (ρ.i 2), .int .i64 (ρ.i 3)]] : List Value) = _
    rw [g0, g1, g2, g3]
  · intro ρ hag
    have g0 : ρ.i 0 = a.ul := (hag 0 (by decide)).1.symm
    have g1 : ρ.i 1 = a.uh := (hag 1 (by decide)).1.symm
    have g2 : ρ.i 2 = a.sl := (hag 2 (by decide)).1.symm
    have g3 : ρ.i 3 = a.sh := (hag 3 (by decide)).1.symm
    simp only [sT_single, Tr.asks, eqs, E.I, E.B, E.L, V.den, C.den, denL, den0, den0L, Option.map_some, Nat.add_zero, Nat.reduceAdd, and_true, Rg.eta, g0, g1, g2, g3]
    simp only [sP_single, b01, Pi.eta, Pu.eta, Rg.eta, sI_has, sB_has]
    refine ⟨fun c0 => ?_, fun c0 => ?_⟩
    · skip
      intro e4
      (try simp only [e4, Pi.eta, Pu.eta, Rg.eta])
      (try clear e4)
      refine ⟨fun c1 => ?_, fun c1 => ?_⟩
      · skip
        all_goals
          refine congrArg some ?_
          (unfold bsingle bones; simp_all)
      · skip
        all_goals
          refine congrArg some ?_
          (unfold bsingle bones; simp_all)
    · skip
      all_goals
        refine congrArg some ?_
        (unfold bsingle bones; simp_all)
def sM_single (key : Nat) : Sm := ⟨15, key, [(true, [.int .u64, .int .u64, .int .i64, .int .i64])], [(false, [.int .u64]), (false, [.bool])], true⟩
def sI_single : Nat → List Int → Int
  | 0, [x0, x1, x2, x3] => (fun (a : Rg) => bsingle a) ⟨x0, x1, x2, x3⟩
  | _, _ => 0
def sB_single : Nat → List Int → Bool
  | 1, [x0, x1, x2, x3] => (fun (a : Rg) => bones a) ⟨x0, x1, x2, x3⟩
  | _, _ => false
theorem sK_single {sp : Spec} {key : Nat} (hI : sp.I key = sI_single) (hB : sp.B key = sB_single) : SmOk Try.prog sp (sM_single key) := by
  refine SmOk.of (.inl ⟨run_enter Try.func15 (by kernel_rfl) (by kernel_rfl), fun xs vals h => ?_⟩) (.inl rfl)
  obtain ⟨_, _, _, p1, h1, rfl⟩ := shA h
  obtain ⟨_, _, _, d1_0, p1_0, rfl⟩ := cksC p1
  obtain ⟨x0, rfl, rfl, gx0⟩ := ckI d1_0
  obtain ⟨_, _, _, d1_1, p1_1, rfl⟩ := cksC p1_0
  obtain ⟨x1, rfl, rfl, gx1⟩ := ckI d1_1
  obtain ⟨_, _, _, d1_2, p1_2, rfl⟩ := cksC p1_1
  obtain ⟨x2, rfl, rfl, gx2⟩ := ckI d1_2
  obtain ⟨_, _, _, d1_3, p1_3, rfl⟩ := cksC p1_2
  obtain ⟨x3, rfl, rfl, gx3⟩ := ckI d1_3
  obtain ⟨rfl, rfl⟩ := cksN p1_3
  obtain ⟨rfl, rfl⟩ := shN h1
  refine ⟨_, sX_single ⟨x0, x1, x2, x3⟩ ⟨gx0, gx1, gx2, gx3⟩, fun ρ v0 he => ?_⟩
  have he' : ρ.i (v0 + 0) = sp.I key 0 [x0, x1, x2, x3] ∧ ρ.b (v0 + 1) = sp.B key 1 [x0, x1, x2, x3] ∧ True := he
  simp only [hI, hB] at he'
  obtain ⟨e0, e1, -⟩ := he'
  show some (.tuple #[.int .u64 (ρ.i (v0 + 0)), .bool (ρ.b (v0 + 1))] : Value) = _
  rw [e0, e1]
  rfl
def sT_join : Tr :=
(.call 0 [.bool] (.cons (.var 0) (.cons (.var 1) (.cons (.var 2) (.cons (.var 3) .nil)))) 8
 (.br (.bvar 8)
 (.call 0 [.bool] (.cons (.var 4) (.cons (.var 5) (.cons (.var 6) (.cons (.var 7) .nil)))) 9
  (.br (.bvar 9)
  (.call 2 [.int .u64, .int .u64] (.cons (.var 0) (.cons (.var 1) (.cons (.var 2) (.cons (.var 3) .nil)))) 10
   (.call 2 [.int .u64, .int .u64] (.cons (.var 4) (.cons (.var 5) (.cons (.var 6) (.cons (.var 7) .nil)))) 12
   (.call 4 [.int .u64, .int .u64] (.cons (.var 10) (.cons (.var 11) (.cons (.var 12) (.cons (.var 13) .nil)))) 14
   (.call 3 [.int .i64, .int .i64] (.cons (.var 0) (.cons (.var 1) (.cons (.var 2) (.cons (.var 3) .nil)))) 16
   (.call 3 [.int .i64, .int .i64] (.cons (.var 4) (.cons (.var 5) (.cons (.var 6) (.cons (.var 7) .nil)))) 18
   (.call 5 [.int .i64, .int .i64] (.cons (.var 16) (.cons (.var 17) (.cons (.var 18) (.cons (.var 19) .nil)))) 20
   (.call 6 [.int .u64, .int .u64, .int .i64, .int .i64] (.cons (.var 14) (.cons (.var 15) (.cons (.var 20) (.cons (.var 21) .nil)))) 22
   (.leaf (.agg [.int .u64 (.var 22), .int .u64 (.var 23), .int .i64 (.var 24), .int .i64 (.var 25)])))))))))
  (.call 1 [.int .u64, .int .u64, .int .i64, .int .i64] .nil 10
   (.leaf (.agg [.int .u64 (.var 10), .int .u64 (.var 11), .int .i64 (.var 12), .int .i64 (.var 13)])))))
 (.call 1 [.int .u64, .int .u64, .int .i64, .int .i64] .nil 9
  (.leaf (.agg [.int .u64 (.var 9), .int .u64 (.var 10), .int .i64 (.var 11), .int .i64 (.var 12)])))))
def sP_join : Spec := ⟨fun k => match k with | 0 => sI_may | 1 => sI_all | 2 => sI_uns | 3 => sI_sig | 4 => sI_ujoin | 5 => sI_ijoin | 6 => sI_of | _ => fun _ _ => 0, fun k => match k with | 0 => sB_may | 1 => sB_all | 2 => sB_uns | 3 => sB_sig | 4 => sB_ujoin | 5 => sB_ijoin | 6 => sB_of | _ => fun _ _ => false⟩
set_option maxRecDepth 100000 in
theorem sR_join : funK ⟨tys_XbA, [sM_may 0, sM_all 1, sM_uns 2, sM_sig 3, sM_ujoin 4, sM_ijoin 5, sM_of 6]⟩ 200 Try.f28 [.agg [.int .u64 (.var 0), .int .u64 (.var 1), .int .i64 (.var 2), .int .i64 (.var 3)], .agg [.int .u64 (.var 4), .int .u64 (.var 5), .int .i64 (.var 6), .int .i64 (.var 7)]] ⟨[], [], [some .u64, some .u64, some .i64, some .i64, some .u64, some .u64, some .i64, some .i64]⟩ = sT_join := by kernel_rfl
set_option maxRecDepth 100000 in
set_option maxHeartbeats 8000000 in
theorem sX_join (a : Rg) (ha : Rg.ok a) (b : Rg) (hb : Rg.ok b) : (∀ w, Calls Try.prog 28 #[.agg #[.int .u64 a.ul, .int .u64 a.uh, .int .i64 a.sl, .int .i64 a.sh], .agg #[.int .u64 b.ul, .int .u64 b.uh, .int .i64 b.sl, .int .i64 b.sh]] w fun e w' => e = .returned (.agg #[.int .u64 (bjoin a b).ul, .int .u64 (bjoin a b).uh, .int .i64 (bjoin a b).sl, .int .i64 (bjoin a b).sh]) ∧ Ext w w') ∧ valIn (.agg #[.int .u64 (bjoin a b).ul, .int .u64 (bjoin a b).uh, .int .i64 (bjoin a b).sl, .int .i64 (bjoin a b).sh]) = true := by
  refine fun_calls (cx := ⟨tys_XbA, [sM_may 0, sM_all 1, sM_uns 2, sM_sig 3, sM_ujoin 4, sM_ijoin 5, sM_of 6]⟩) (sp := sP_join) (t := sT_join) (by kernel_rfl) tysok_XbA (List.forall_mem_cons.2 ⟨sK_may rfl rfl, List.forall_mem_cons.2 ⟨sK_all rfl rfl, List.forall_mem_cons.2 ⟨sK_uns rfl rfl, List.forall_mem_cons.2 ⟨sK_sig rfl rfl, List.forall_mem_cons.2 ⟨sK_ujoin rfl rfl, List.forall_mem_cons.2 ⟨sK_ijoin rfl rfl, List.forall_mem_cons.2 ⟨sK_of rfl rfl, fun _ h => (by cases h)⟩⟩⟩⟩⟩⟩⟩) (keys_of (by kernel_rfl)) Try.func28 ⟨fun n => ([a.ul, a.uh, a.sl, a.sh, b.ul, b.uh, b.sl, b.sh] : List Int).getD n 0, fun n => ([false, false, false, false, false, false, false, false] : List Bool).getD n false⟩ sR_join (by kernel_rfl) ?_ rfl (by intro p hp; cases hp) ?_ ?_
  · intro n k hk
    have hlt : n < 8 := by
      rcases Nat.lt_or_ge n 8 with h | h
      · exact h
      · rw [List.getElem?_eq_none h] at hk; cases hk
    rcases (show n = 0 ∨ n = 1 ∨ n = 2 ∨ n = 3 ∨ n = 4 ∨ n = 5 ∨ n = 6 ∨ n = 7 by omega) with rfl | rfl | rfl | rfl | rfl | rfl | rfl | rfl
    · cases hk; exact ha.1
    · cases hk; exact ha.2.1
    · cases hk; exact ha.2.2.1
    · cases hk; exact ha.2.2.2
    · cases hk; exact hb.1
    · cases hk; exact hb.2.1
    · cases hk; exact hb.2.2.1
    · cases hk; exact hb.2.2.2
  · intro ρ hag
    have g0 : ρ.i 0 = a.ul := (hag 0 (by decide)).1.symm
    have g1 : ρ.i 1 = a.uh := (hag 1 (by decide)).1.symm
    have g2 : ρ.i 2 = a.sl := (hag 2 (by decide)).1.symm
    have g3 : ρ.i 3 = a.sh := (hag 3 (by decide)).1.symm
    have g4 : ρ.i 4 = b.ul := (hag 4 (by decide)).1.symm
    have g5 : ρ.i 5 = b.uh := (hag 5 (by decide)).1.symm
    have g6 : ρ.i 6 = b.sl := (hag 6 (by decide)).1.symm
    have g7 : ρ.i 7 = b.sh := (hag 7 (by decide)).1.symm
    show some ([.agg #[.int .u64 (ρ.i 0), .int .u64 (ρ.i 1), .int .i64 (ρ.i 2), .int .i64 (ρ.i 3)], .agg #[.int .u64 (ρ.i 4), .int .u64 (ρ.i 5), .int .i64 (ρ.i 6), .int .i64 (ρ.i 7)]] : List Value) = _
    rw [g0, g1, g2, g3, g4, g5, g6, g7]
  · intro ρ hag
    have g0 : ρ.i 0 = a.ul := (hag 0 (by decide)).1.symm
    have g1 : ρ.i 1 = a.uh := (hag 1 (by decide)).1.symm
    have g2 : ρ.i 2 = a.sl := (hag 2 (by decide)).1.symm
    have g3 : ρ.i 3 = a.sh := (hag 3 (by decide)).1.symm
    have g4 : ρ.i 4 = b.ul := (hag 4 (by decide)).1.symm
    have g5 : ρ.i 5 = b.uh := (hag 5 (by decide)).1.symm
    have g6 : ρ.i 6 = b.sl := (hag 6 (by decide)).1.symm
    have g7 : ρ.i 7 = b.sh := (hag 7 (by decide)).1.symm
    simp only [sT_join, Tr.asks, eqs, E.I, E.B, E.L, V.den, C.den, denL, den0, den0L, Option.map_some, Nat.add_zero, Nat.reduceAdd, and_true, Rg.eta, g0, g1, g2, g3, g4, g5, g6, g7]
    simp only [sP_join, b01, Pi.eta, Pu.eta, Rg.eta, sI_may, sB_may, sI_all, sB_all, sI_uns, sB_uns, sI_sig, sB_sig, sI_ujoin, sB_ujoin, sI_ijoin, sB_ijoin, sI_of, sB_of]
    intro e8
    (try simp only [e8, Pi.eta, Pu.eta, Rg.eta])
    (try clear e8)
    refine ⟨fun c0 => ?_, fun c0 => ?_⟩
    · skip
      intro e9
      (try simp only [e9, Pi.eta, Pu.eta, Rg.eta])
      (try clear e9)
      refine ⟨fun c1 => ?_, fun c1 => ?_⟩
      · skip
        rintro ⟨e10, e11⟩
        (try simp only [e10, e11, Pi.eta, Pu.eta, Rg.eta])
        (try clear e10 e11)
        rintro ⟨e12, e13⟩
        (try simp only [e12, e13, Pi.eta, Pu.eta, Rg.eta])
        (try clear e12 e13)
        rintro ⟨e14, e15⟩
        (try simp only [e14, e15, Pi.eta, Pu.eta, Rg.eta])
        (try clear e14 e15)
        rintro ⟨e16, e17⟩
        (try simp only [e16, e17, Pi.eta, Pu.eta, Rg.eta])
        (try clear e16 e17)
        rintro ⟨e18, e19⟩
        (try simp only [e18, e19, Pi.eta, Pu.eta, Rg.eta])
        (try clear e18 e19)
        rintro ⟨e20, e21⟩
        (try simp only [e20, e21, Pi.eta, Pu.eta, Rg.eta])
        (try clear e20 e21)
        rintro ⟨e22, e23, e24, e25⟩
        (try simp only [e22, e23, e24, e25, Pi.eta, Pu.eta, Rg.eta])
        (try clear e22 e23 e24 e25)
        all_goals
          refine congrArg some ?_
          (unfold bjoin; simp_all [bjoin0])
      · skip
        rintro ⟨e10, e11, e12, e13⟩
        (try simp only [e10, e11, e12, e13, Pi.eta, Pu.eta, Rg.eta])
        (try clear e10 e11 e12 e13)
        all_goals
          refine congrArg some ?_
          (unfold bjoin; simp_all [bjoin0])
    · skip
      rintro ⟨e9, e10, e11, e12⟩
      (try simp only [e9, e10, e11, e12, Pi.eta, Pu.eta, Rg.eta])
      (try clear e9 e10 e11 e12)
      all_goals
        refine congrArg some ?_
        (unfold bjoin; simp_all [bjoin0])
def sM_join (key : Nat) : Sm := ⟨28, key, [(true, [.int .u64, .int .u64, .int .i64, .int .i64]), (true, [.int .u64, .int .u64, .int .i64, .int .i64])], [(true, [.int .u64, .int .u64, .int .i64, .int .i64])], false⟩
def sI_join : Nat → List Int → Int
  | 0, [x0, x1, x2, x3, x4, x5, x6, x7] => (fun (a : Rg) (b : Rg) => (bjoin a b).ul) ⟨x0, x1, x2, x3⟩ ⟨x4, x5, x6, x7⟩
  | 1, [x0, x1, x2, x3, x4, x5, x6, x7] => (fun (a : Rg) (b : Rg) => (bjoin a b).uh) ⟨x0, x1, x2, x3⟩ ⟨x4, x5, x6, x7⟩
  | 2, [x0, x1, x2, x3, x4, x5, x6, x7] => (fun (a : Rg) (b : Rg) => (bjoin a b).sl) ⟨x0, x1, x2, x3⟩ ⟨x4, x5, x6, x7⟩
  | 3, [x0, x1, x2, x3, x4, x5, x6, x7] => (fun (a : Rg) (b : Rg) => (bjoin a b).sh) ⟨x0, x1, x2, x3⟩ ⟨x4, x5, x6, x7⟩
  | _, _ => 0
def sB_join : Nat → List Int → Bool
  | _, _ => false
theorem sK_join {sp : Spec} {key : Nat} (hI : sp.I key = sI_join) (hB : sp.B key = sB_join) : SmOk Try.prog sp (sM_join key) := by
  refine SmOk.of (.inl ⟨run_enter Try.func28 (by kernel_rfl) (by kernel_rfl), fun xs vals h => ?_⟩) (.inr (.inl ⟨_, rfl⟩))
  obtain ⟨_, _, _, p1, h1, rfl⟩ := shA h
  obtain ⟨_, _, _, d1_0, p1_0, rfl⟩ := cksC p1
  obtain ⟨x0, rfl, rfl, gx0⟩ := ckI d1_0
  obtain ⟨_, _, _, d1_1, p1_1, rfl⟩ := cksC p1_0
  obtain ⟨x1, rfl, rfl, gx1⟩ := ckI d1_1
  obtain ⟨_, _, _, d1_2, p1_2, rfl⟩ := cksC p1_1
  obtain ⟨x2, rfl, rfl, gx2⟩ := ckI d1_2
  obtain ⟨_, _, _, d1_3, p1_3, rfl⟩ := cksC p1_2
  obtain ⟨x3, rfl, rfl, gx3⟩ := ckI d1_3
  obtain ⟨rfl, rfl⟩ := cksN p1_3
  obtain ⟨_, _, _, p2, h2, rfl⟩ := shA h1
  obtain ⟨_, _, _, d2_0, p2_0, rfl⟩ := cksC p2
  obtain ⟨x4, rfl, rfl, gx4⟩ := ckI d2_0
  obtain ⟨_, _, _, d2_1, p2_1, rfl⟩ := cksC p2_0
  obtain ⟨x5, rfl, rfl, gx5⟩ := ckI d2_1
  obtain ⟨_, _, _, d2_2, p2_2, rfl⟩ := cksC p2_1
  obtain ⟨x6, rfl, rfl, gx6⟩ := ckI d2_2
  obtain ⟨_, _, _, d2_3, p2_3, rfl⟩ := cksC p2_2
  obtain ⟨x7, rfl, rfl, gx7⟩ := ckI d2_3
  obtain ⟨rfl, rfl⟩ := cksN p2_3
  obtain ⟨rfl, rfl⟩ := shN h2
  refine ⟨_, sX_join ⟨x0, x1, x2, x3⟩ ⟨gx0, gx1, gx2, gx3⟩ ⟨x4, x5, x6, x7⟩ ⟨gx4, gx5, gx6, gx7⟩, fun ρ v0 he => ?_⟩
  have he' : ρ.i (v0 + 0) = sp.I key 0 [x0, x1, x2, x3, x4, x5, x6, x7] ∧ ρ.i (v0 + 1) = sp.I key 1 [x0, x1, x2, x3, x4, x5, x6, x7] ∧ ρ.i (v0 + 2) = sp.I key 2 [x0, x1, x2, x3, x4, x5, x6, x7] ∧ ρ.i (v0 + 3) = sp.I key 3 [x0, x1, x2, x3, x4, x5, x6, x7] ∧ True := he
  simp only [hI, hB] at he'
  obtain ⟨e0, e1, e2, e3, -⟩ := he'
  show some (.agg #[.int .u64 (ρ.i (v0 + 0)), .int .u64 (ρ.i (v0 + 1)), .int .i64 (ρ.i (v0 + 2)), .int .i64 (ρ.i (v0 + 3))] : Value) = _
  rw [e0, e1, e2, e3]
  rfl
end Go.Proofs.Ytcngfmhhaleoaaa
