/- Texts XbA, XbB, XbL, XbG in one. -/
import Derived.Test.YtcngfmhhaleoaaaSxZ
import Derived.Test.YtcngfmhhaleoaaaBdG
import Derived.Test.YtcngfmhhaleoaaaProg
import Derived.Laws.Externs
/- Contracts of the small functions of package bounds, by the symbolic run. -/
set_option linter.unusedVariables false
set_option linter.unusedSimpArgs false
namespace Go.Proofs.Ytcngfmhhaleoaaa
open Go.RowKit Go.ChangeShapes Go.WideShapes

structure Pu where
  lo : Int
  hi : Int
structure Pi where
  lo : Int
  hi : Int
theorem Rg.eta (a : Rg) : (⟨a.ul, a.uh, a.sl, a.sh⟩ : Rg) = a := rfl
def Rg.ok (a : Rg) : Prop := inK .u64 a.ul = true ∧ inK .u64 a.uh = true ∧ inK .i64 a.sl = true ∧ inK .i64 a.sh = true
theorem Pu.eta (a : Pu) : (⟨a.lo, a.hi⟩ : Pu) = a := rfl
def Pu.ok (a : Pu) : Prop := inK .u64 a.lo = true ∧ inK .u64 a.hi = true
theorem Pi.eta (a : Pi) : (⟨a.lo, a.hi⟩ : Pi) = a := rfl
def Pi.ok (a : Pi) : Prop := inK .i64 a.lo = true ∧ inK .i64 a.hi = true
def tys_XbA : List (Nat × TI) := [(2, ⟨false, 1, [.int .i64 (.lit 0)], [], none, some .i64, false, false⟩),
  (22, ⟨false, 1, [.int .u64 (.lit 0)], [], none, some .u64, false, false⟩),
  (24, ⟨true, 4, [.int .u64 (.lit 0), .int .u64 (.lit 0), .int .i64 (.lit 0), .int .i64 (.lit 0)], [(0, 22), (1, 22), (2, 2), (3, 2)], none, none, false, false⟩),
  (69, ⟨true, 2, [.int .u64 (.lit 0), .int .u64 (.lit 0)], [(0, 22), (1, 22)], none, none, false, false⟩),
  (72, ⟨true, 2, [.int .i64 (.lit 0), .int .i64 (.lit 0)], [(0, 2), (1, 2)], none, none, false, false⟩)]
set_option maxRecDepth 100000 in
theorem tysck_XbA : (tys_XbA.all fun p => ckTI Try.prog p.1 p.2) = true := by kernel_rfl
theorem tysne_XbA : (tys_XbA.all fun p => !p.2.eqok) = true := by kernel_rfl
theorem tysok_XbA : ∀ t i, (t, i) ∈ tys_XbA → TIok Try.prog t i := by
  intro t i h
  have h1 := all_at (f := fun _ i => !i.eqok) tysne_XbA h
  exact TIok_of (all_at (f := ckTI Try.prog) tysck_XbA h) (fun he => by simp [he] at h1) (fun he => by simp [he] at h1)
def sT_uns : Tr :=
(.leaf (.agg [.int .u64 (.var 0), .int .u64 (.var 1)]))
def sP_uns : Spec := ⟨fun k => match k with | _ => fun _ _ => 0, fun k => match k with | _ => fun _ _ => false⟩
set_option maxRecDepth 100000 in
theorem sR_uns : funK ⟨tys_XbA, []⟩ 200 Try.f50 [.agg [.int .u64 (.var 0), .int .u64 (.var 1), .int .i64 (.var 2), .int .i64 (.var 3)]] ⟨[], [], [some .u64, some .u64, some .i64, some .i64]⟩ = sT_uns := by kernel_rfl
set_option maxRecDepth 100000 in
set_option maxHeartbeats 8000000 in
theorem sX_uns (a : Rg) (ha : Rg.ok a) : (∀ w, Calls Try.prog 50 #[.agg #[.int .u64 a.ul, .int .u64 a.uh, .int .i64 a.sl, .int .i64 a.sh]] w fun e w' => e = .returned (.agg #[.int .u64 ((⟨a.ul, a.uh⟩ : Pu)).lo, .int .u64 ((⟨a.ul, a.uh⟩ : Pu)).hi]) ∧ Ext w w') ∧ valIn (.agg #[.int .u64 ((⟨a.ul, a.uh⟩ : Pu)).lo, .int .u64 ((⟨a.ul, a.uh⟩ : Pu)).hi]) = true := by
  refine fun_calls (cx := ⟨tys_XbA, []⟩) (sp := sP_uns) (t := sT_uns) (by kernel_rfl) tysok_XbA (fun _ h => (by cases h)) (keys_of (by kernel_rfl)) Try.func50 ⟨fun n => ([a.ul, a.uh, a.sl, a.sh] : List Int).getD n 0, fun n => ([false, false, false, false] : List Bool).getD n false⟩ sR_uns (by kernel_rfl) ?_ rfl (by intro p hp; cases hp) ?_ ?_
  · intro n k hk
    have hlt : n < 4 := by
      rcases Nat.lt_or_ge n 4 with h | h
      · exact h
      · rw [List.getElem?_eq_none h] at hk; cases hk
    rcases (show n = 0 ∨ n = 1 ∨ n = 2 ∨ n = 3 by omega) with rfl | rfl | rfl | rfl
    · cases hk; exact ha.1
    · cases hk; exact ha.2.1
    · cases hk; exact ha.2.2.1
    · cases hk; exact ha.2.2.2
  · intro ρ hag
    have g0 : ρ.i 0 = a.ul := (hag 0 (by decide)).1.symm
    have g1 : ρ.i 1 = a.uh := (hag 1 (by decide)).1.symm
    have g2 : ρ.i 2 = a.sl := (hag 2 (by decide)).1.symm
    have g3 : ρ.i 3 = a.sh := (hag 3 (by decide)).1.symm
    show some ([.agg #[.int .u64 (ρ.i 0), .int .u64 (ρ.i 1), .int .i64 (ρ.i 2), .int .i64 (ρ.i 3)]] : List Value) = _
    rw [g0, g1, g2, g3]
  · intro ρ hag
    have g0 : ρ.i 0 = a.ul := (hag 0 (by decide)).1.symm
    have g1 : ρ.i 1 = a.uh := (hag 1 (by decide)).1.symm
    have g2 : ρ.i 2 = a.sl := (hag 2 (by decide)).1.symm
    have g3 : ρ.i 3 = a.sh := (hag 3 (by decide)).1.symm
    simp only [sT_uns, Tr.asks, eqs, E.I, E.B, E.L, V.den, C.den, denL, den0, den0L, Option.map_some, Nat.add_zero, Nat.reduceAdd, and_true, Rg.eta, g0, g1, g2, g3]
def sM_uns (key : Nat) : Sm := ⟨50, key, [(true, [.int .u64, .int .u64, .int .i64, .int .i64])], [(true, [.int .u64, .int .u64])], false⟩
def sI_uns : Nat → List Int → Int
  | 0, [x0, x1, x2, x3] => (fun (a : Rg) => ((⟨a.ul, a.uh⟩ : Pu)).lo) ⟨x0, x1, x2, x3⟩
  | 1, [x0, x1, x2, x3] => (fun (a : Rg) => ((⟨a.ul, a.uh⟩ : Pu)).hi) ⟨x0, x1, x2, x3⟩
  | _, _ => 0
def sB_uns : Nat → List Int → Bool
  | _, _ => false
theorem sK_uns {sp : Spec} {key : Nat} (hI : sp.I key = sI_uns) (hB : sp.B key = sB_uns) : SmOk Try.prog sp (sM_uns key) := by
  refine SmOk.of (.inl ⟨run_enter Try.func50 (by kernel_rfl) (by kernel_rfl), fun xs vals h => ?_⟩) (.inr (.inl ⟨_, rfl⟩))
  obtain ⟨_, _, _, p1, h1, rfl⟩ := shA h
  obtain ⟨_, _, _, d1_0, p1_0, rfl⟩ := cksC p1
  obtain ⟨x0, rfl, rfl, gx0⟩ := ckI d1_0
  obtain ⟨_, _, _, d1_1, p1_1, rfl⟩ := cksC p1_0
  obtain ⟨x1, rfl, rfl, gx1⟩ := ckI d1_1
  obtain ⟨_, _, _, d1_2, p1_2, rfl⟩ := cksC p1_1
  obtain ⟨x2, rfl, rfl, gx2⟩ := ckI d1_2
  obtain ⟨_, _, _, d1_3, p1_3, rfl⟩ := cksC p1_2
  obtain ⟨x3, rfl, rfl, gx3⟩ := ckI d1_3
  obtain ⟨rfl, rfl⟩ := cksN p1_3
  obtain ⟨rfl, rfl⟩ := shN h1
  refine ⟨_, sX_uns ⟨x0, x1, x2, x3⟩ ⟨gx0, gx1, gx2, gx3⟩, fun ρ v0 he => ?_⟩
  have he' : ρ.i (v0 + 0) = sp.I key 0 [x0, x1, x2, x3] ∧ ρ.i (v0 + 1) = sp.I key 1 [x0, x1, x2, x3] ∧ True := he
  simp only [hI, hB] at he'
  obtain ⟨e0, e1, -⟩ := he'
  show some (.agg #[.int .u64 (ρ.i (v0 + 0)), .int .u64 (ρ.i (v0 + 1))] : Value) = _
  rw [e0, e1]
  rfl
def sT_sig : Tr :=
(.leaf (.agg [.int .i64 (.var 2), .int .i64 (.var 3)]))
def sP_sig : Spec := ⟨fun k => match k with | _ => fun _ _ => 0, fun k => match k with | _ => fun _ _ => false⟩
set_option maxRecDepth 100000 in
theorem sR_sig : funK ⟨tys_XbA, []⟩ 200 Try.f51 [.agg [.int .u64 (.var 0), .int .u64 (.var 1), .int .i64 (.var 2), .int .i64 (.var 3)]] ⟨[], [], [some .u64, some .u64, some .i64, some .i64]⟩ = sT_sig := by kernel_rfl
set_option maxRecDepth 100000 in
set_option maxHeartbeats 8000000 in
theorem sX_sig (a : Rg) (ha : Rg.ok a) : (∀ w, Calls Try.prog 51 #[.agg #[.int .u64 a.ul, .int .u64 a.uh, .int .i64 a.sl, .int .i64 a.sh]] w fun e w' => e = .returned (.agg #[.int .i64 ((⟨a.sl, a.sh⟩ : Pi)).lo, .int .i64 ((⟨a.sl, a.sh⟩ : Pi)).hi]) ∧ Ext w w') ∧ valIn (.agg #[.int .i64 ((⟨a.sl, a.sh⟩ : Pi)).lo, .int .i64 ((⟨a.sl, a.sh⟩ : Pi)).hi]) = true := by
  refine fun_calls (cx := ⟨tys_XbA, []⟩) (sp := sP_sig) (t := sT_sig) (by kernel_rfl) tysok_XbA (fun _ h => (by cases h)) (keys_of (by kernel_rfl)) Try.func51 ⟨fun n => ([a.ul, a.uh, a.sl, a.sh] : List Int).getD n 0, fun n => ([false, false, false, false] : List Bool).getD n false⟩ sR_sig (by kernel_rfl) ?_ rfl (by intro p hp; cases hp) ?_ ?_
  · intro n k hk
    have hlt : n < 4 := by
      rcases Nat.lt_or_ge n 4 with h | h
      · exact h
      · rw [List.getElem?_eq_none h] at hk; cases hk
    rcases (show n = 0 ∨ n = 1 ∨ n = 2 ∨ n = 3 by omega) with rfl | rfl | rfl | rfl
    · cases hk; exact ha.1
    · cases hk; exact ha.2.1
    · cases hk; exact ha.2.2.1
    · cases hk; exact ha.2.2.2
  · intro ρ hag
    have g0 : ρ.i 0 = a.ul := (hag 0 (by decide)).1.symm
    have g1 : ρ.i 1 = a.uh := (hag 1 (by decide)).1.symm
    have g2 : ρ.i 2 = a.sl := (hag 2 (by decide)).1.symm
    have g3 : ρ.i 3 = a.sh := (hag 3 (by decide)).1.symm
    show some ([.agg #[.int .u64 (ρ.i 0), .int .u64 (ρ.i 1), .int .i64 (ρ.i 2), .int .i64 (ρ.i 3)]] : List Value) = _
    rw [g0, g1, g2, g3]
  · intro ρ hag
    have g0 : ρ.i 0 = a.ul := (hag 0 (by decide)).1.symm
    have g1 : ρ.i 1 = a.uh := (hag 1 (by decide)).1.symm
    have g2 : ρ.i 2 = a.sl := (hag 2 (by decide)).1.symm
    have g3 : ρ.i 3 = a.sh := (hag 3 (by decide)).1.symm
    simp only [sT_sig, Tr.asks, eqs, E.I, E.B, E.L, V.den, C.den, denL, den0, den0L, Option.map_some, Nat.add_zero, Nat.reduceAdd, and_true, Rg.eta, g0, g1, g2, g3]
def sM_sig (key : Nat) : Sm := ⟨51, key, [(true, [.int .u64, .int .u64, .int .i64, .int .i64])], [(true, [.int .i64, .int .i64])], false⟩
def sI_sig : Nat → List Int → Int
  | 0, [x0, x1, x2, x3] => (fun (a : Rg) => ((⟨a.sl, a.sh⟩ : Pi)).lo) ⟨x0, x1, x2, x3⟩
  | 1, [x0, x1, x2, x3] => (fun (a : Rg) => ((⟨a.sl, a.sh⟩ : Pi)).hi) ⟨x0, x1, x2, x3⟩
  | _, _ => 0
def sB_sig : Nat → List Int → Bool
  | _, _ => false
theorem sK_sig {sp : Spec} {key : Nat} (hI : sp.I key = sI_sig) (hB : sp.B key = sB_sig) : SmOk Try.prog sp (sM_sig key) := by
  refine SmOk.of (.inl ⟨run_enter Try.func51 (by kernel_rfl) (by kernel_rfl), fun xs vals h => ?_⟩) (.inr (.inl ⟨_, rfl⟩))
  obtain ⟨_, _, _, p1, h1, rfl⟩ := shA h
  obtain ⟨_, _, _, d1_0, p1_0, rfl⟩ := cksC p1
  obtain ⟨x0, rfl, rfl, gx0⟩ := ckI d1_0
  obtain ⟨_, _, _, d1_1, p1_1, rfl⟩ := cksC p1_0
  obtain ⟨x1, rfl, rfl, gx1⟩ := ckI d1_1
  obtain ⟨_, _, _, d1_2, p1_2, rfl⟩ := cksC p1_1
  obtain ⟨x2, rfl, rfl, gx2⟩ := ckI d1_2
  obtain ⟨_, _, _, d1_3, p1_3, rfl⟩ := cksC p1_2
  obtain ⟨x3, rfl, rfl, gx3⟩ := ckI d1_3
  obtain ⟨rfl, rfl⟩ := cksN p1_3
  obtain ⟨rfl, rfl⟩ := shN h1
  refine ⟨_, sX_sig ⟨x0, x1, x2, x3⟩ ⟨gx0, gx1, gx2, gx3⟩, fun ρ v0 he => ?_⟩
  have he' : ρ.i (v0 + 0) = sp.I key 0 [x0, x1, x2, x3] ∧ ρ.i (v0 + 1) = sp.I key 1 [x0, x1, x2, x3] ∧ True := he
  simp only [hI, hB] at he'
  obtain ⟨e0, e1, -⟩ := he'
  show some (.agg #[.int .i64 (ρ.i (v0 + 0)), .int .i64 (ρ.i (v0 + 1))] : Value) = _
  rw [e0, e1]
  rfl
def sT_umay : Tr :=
(.leaf (.one (.bool (.not (.lt (.var 1) (.var 0))))))
def sP_umay : Spec := ⟨fun k => match k with | _ => fun _ _ => 0, fun k => match k with | _ => fun _ _ => false⟩
set_option maxRecDepth 100000 in
theorem sR_umay : funK ⟨tys_XbA, []⟩ 200 Try.f58 [.agg [.int .u64 (.var 0), .int .u64 (.var 1)]] ⟨[], [], [some .u64, some .u64]⟩ = sT_umay := by kernel_rfl
set_option maxRecDepth 100000 in
set_option maxHeartbeats 8000000 in
theorem sX_umay (a : Pu) (ha : Pu.ok a) : (∀ w, Calls Try.prog 58 #[.agg #[.int .u64 a.lo, .int .u64 a.hi]] w fun e w' => e = .returned (.bool (decide (a.lo ≤ a.hi))) ∧ Ext w w') ∧ valIn (.bool (decide (a.lo ≤ a.hi))) = true := by
  refine fun_calls (cx := ⟨tys_XbA, []⟩) (sp := sP_umay) (t := sT_umay) (by kernel_rfl) tysok_XbA (fun _ h => (by cases h)) (keys_of (by kernel_rfl)) Try.func58 ⟨fun n => ([a.lo, a.hi] : List Int).getD n 0, fun n => ([false, false] : List Bool).getD n false⟩ sR_umay (by kernel_rfl) ?_ rfl (by intro p hp; cases hp) ?_ ?_
  · intro n k hk
    have hlt : n < 2 := by
      rcases Nat.lt_or_ge n 2 with h | h
      · exact h
      · rw [List.getElem?_eq_none h] at hk; cases hk
    rcases (show n = 0 ∨ n = 1 by omega) with rfl | rfl
    · cases hk; exact ha.1
    · cases hk; exact ha.2
  · intro ρ hag
    have g0 : ρ.i 0 = a.lo := (hag 0 (by decide)).1.symm
    have g1 : ρ.i 1 = a.hi := (hag 1 (by decide)).1.symm
    show some ([.agg #[.int .u64 (ρ.i 0), .int .u64 (ρ.i 1)]] : List Value) = _
    rw [g0, g1]
  · intro ρ hag
    have g0 : ρ.i 0 = a.lo := (hag 0 (by decide)).1.symm
    have g1 : ρ.i 1 = a.hi := (hag 1 (by decide)).1.symm
    simp only [sT_umay, Tr.asks, eqs, E.I, E.B, E.L, V.den, C.den, denL, den0, den0L, Option.map_some, Nat.add_zero, Nat.reduceAdd, and_true, Pu.eta, g0, g1]
    all_goals
      refine congrArg some ?_
      simp [not_lt_le]
def sM_umay (key : Nat) : Sm := ⟨58, key, [(true, [.int .u64, .int .u64])], [(false, [.bool])], false⟩
def sI_umay : Nat → List Int → Int
  | _, _ => 0
def sB_umay : Nat → List Int → Bool
  | 0, [x0, x1] => (fun (a : Pu) => decide (a.lo ≤ a.hi)) ⟨x0, x1⟩
  | _, _ => false
theorem sK_umay {sp : Spec} {key : Nat} (hI : sp.I key = sI_umay) (hB : sp.B key = sB_umay) : SmOk Try.prog sp (sM_umay key) := by
  refine SmOk.of (.inl ⟨run_enter Try.func58 (by kernel_rfl) (by kernel_rfl), fun xs vals h => ?_⟩) (.inr (.inr ⟨_, rfl⟩))
  obtain ⟨_, _, _, p1, h1, rfl⟩ := shA h
  obtain ⟨_, _, _, d1_0, p1_0, rfl⟩ := cksC p1
  obtain ⟨x0, rfl, rfl, gx0⟩ := ckI d1_0
  obtain ⟨_, _, _, d1_1, p1_1, rfl⟩ := cksC p1_0
  obtain ⟨x1, rfl, rfl, gx1⟩ := ckI d1_1
  obtain ⟨rfl, rfl⟩ := cksN p1_1
  obtain ⟨rfl, rfl⟩ := shN h1
  refine ⟨_, sX_umay ⟨x0, x1⟩ ⟨gx0, gx1⟩, fun ρ v0 he => ?_⟩
  have he' : ρ.b (v0 + 0) = sp.B key 0 [x0, x1] ∧ True := he
  simp only [hI, hB] at he'
  obtain ⟨e0, -⟩ := he'
  show some (.bool (ρ.b (v0 + 0)) : Value) = _
  rw [e0]
  rfl
def sT_imay : Tr :=
(.leaf (.one (.bool (.not (.lt (.var 1) (.var 0))))))
def sP_imay : Spec := ⟨fun k => match k with | _ => fun _ _ => 0, fun k => match k with | _ => fun _ _ => false⟩
set_option maxRecDepth 100000 in
theorem sR_imay : funK ⟨tys_XbA, []⟩ 200 Try.f59 [.agg [.int .i64 (.var 0), .int .i64 (.var 1)]] ⟨[], [], [some .i64, some .i64]⟩ = sT_imay := by kernel_rfl
set_option maxRecDepth 100000 in
set_option maxHeartbeats 8000000 in
theorem sX_imay (a : Pi) (ha : Pi.ok a) : (∀ w, Calls Try.prog 59 #[.agg #[.int .i64 a.lo, .int .i64 a.hi]] w fun e w' => e = .returned (.bool (decide (a.lo ≤ a.hi))) ∧ Ext w w') ∧ valIn (.bool (decide (a.lo ≤ a.hi))) = true := by
  refine fun_calls (cx := ⟨tys_XbA, []⟩) (sp := sP_imay) (t := sT_imay) (by kernel_rfl) tysok_XbA (fun _ h => (by cases h)) (keys_of (by kernel_rfl)) Try.func59 ⟨fun n => ([a.lo, a.hi] : List Int).getD n 0, fun n => ([false, false] : List Bool).getD n false⟩ sR_imay (by kernel_rfl) ?_ rfl (by intro p hp; cases hp) ?_ ?_
  · intro n k hk
    have hlt : n < 2 := by
      rcases Nat.lt_or_ge n 2 with h | h
      · exact h
      · rw [List.getElem?_eq_none h] at hk; cases hk
    rcases (show n = 0 ∨ n = 1 by omega) with rfl | rfl
    · cases hk; exact ha.1
    · cases hk; exact ha.2
  · intro ρ hag
    have g0 : ρ.i 0 = a.lo := (hag 0 (by decide)).1.symm
    have g1 : ρ.i 1 = a.hi := (hag 1 (by decide)).1.symm
    show some ([.agg #[.int .i64 (ρ.i 0), .int .i64 (ρ.i 1)]] : List Value) = _
    rw [g0, g1]
  · intro ρ hag
    have g0 : ρ.i 0 = a.lo := (hag 0 (by decide)).1.symm
    have g1 : ρ.i 1 = a.hi := (hag 1 (by decide)).1.symm
    simp only [sT_imay, Tr.asks, eqs, E.I, E.B, E.L, V.den, C.den, denL, den0, den0L, Option.map_some, Nat.add_zero, Nat.reduceAdd, and_true, Pi.eta, g0, g1]
    all_goals
      refine congrArg some ?_
      simp [not_lt_le]
def sM_imay (key : Nat) : Sm := ⟨59, key, [(true, [.int .i64, .int .i64])], [(false, [.bool])], false⟩
def sI_imay : Nat → List Int → Int
  | _, _ => 0
def sB_imay : Nat → List Int → Bool
  | 0, [x0, x1] => (fun (a : Pi) => decide (a.lo ≤ a.hi)) ⟨x0, x1⟩
  | _, _ => false
theorem sK_imay {sp : Spec} {key : Nat} (hI : sp.I key = sI_imay) (hB : sp.B key = sB_imay) : SmOk Try.prog sp (sM_imay key) := by
  refine SmOk.of (.inl ⟨run_enter Try.func59 (by kernel_rfl) (by kernel_rfl), fun xs vals h => ?_⟩) (.inr (.inr ⟨_, rfl⟩))
  obtain ⟨_, _, _, p1, h1, rfl⟩ := shA h
  obtain ⟨_, _, _, d1_0, p1_0, rfl⟩ := cksC p1
  obtain ⟨x0, rfl, rfl, gx0⟩ := ckI d1_0
  obtain ⟨_, _, _, d1_1, p1_1, rfl⟩ := cksC p1_0
  obtain ⟨x1, rfl, rfl, gx1⟩ := ckI d1_1
  obtain ⟨rfl, rfl⟩ := cksN p1_1
  obtain ⟨rfl, rfl⟩ := shN h1
  refine ⟨_, sX_imay ⟨x0, x1⟩ ⟨gx0, gx1⟩, fun ρ v0 he => ?_⟩
  have he' : ρ.b (v0 + 0) = sp.B key 0 [x0, x1] ∧ True := he
  simp only [hI, hB] at he'
  obtain ⟨e0, -⟩ := he'
  show some (.bool (ρ.b (v0 + 0)) : Value) = _
  rw [e0]
  rfl
def sT_uhas : Tr :=
(.br (.lt (.var 2) (.var 0))
 (.leaf (.one (.bool (.tt false))))
 (.leaf (.one (.bool (.not (.lt (.var 1) (.var 2)))))))
def sP_uhas : Spec := ⟨fun k => match k with | _ => fun _ _ => 0, fun k => match k with | _ => fun _ _ => false⟩
set_option maxRecDepth 100000 in
theorem sR_uhas : funK ⟨tys_XbA, []⟩ 200 Try.f55 [.agg [.int .u64 (.var 0), .int .u64 (.var 1)], .one (.int .u64 (.var 2))] ⟨[], [], [some .u64, some .u64, some .u64]⟩ = sT_uhas := by kernel_rfl
set_option maxRecDepth 100000 in
set_option maxHeartbeats 8000000 in
theorem sX_uhas (a : Pu) (ha : Pu.ok a) (v : Int) (hv : inK .u64 v = true) : (∀ w, Calls Try.prog 55 #[.agg #[.int .u64 a.lo, .int .u64 a.hi], .int .u64 v] w fun e w' => e = .returned (.bool ((decide (a.lo ≤ v) && decide (v ≤ a.hi)))) ∧ Ext w w') ∧ valIn (.bool ((decide (a.lo ≤ v) && decide (v ≤ a.hi)))) = true := by
  refine fun_calls (cx := ⟨tys_XbA, []⟩) (sp := sP_uhas) (t := sT_uhas) (by kernel_rfl) tysok_XbA (fun _ h => (by cases h)) (keys_of (by kernel_rfl)) Try.func55 ⟨fun n => ([a.lo, a.hi, v] : List Int).getD n 0, fun n => ([false, false, false] : List Bool).getD n false⟩ sR_uhas (by kernel_rfl) ?_ rfl (by intro p hp; cases hp) ?_ ?_
  · intro n k hk
    have hlt : n < 3 := by
      rcases Nat.lt_or_ge n 3 with h | h
      · exact h
      · rw [List.getElem?_eq_none h] at hk; cases hk
    rcases (show n = 0 ∨ n = 1 ∨ n = 2 by omega) with rfl | rfl | rfl
    · cases hk; exact ha.1
    · cases hk; exact ha.2
    · cases hk; exact hv
  · intro ρ hag
    have g0 : ρ.i 0 = a.lo := (hag 0 (by decide)).1.symm
    have g1 : ρ.i 1 = a.hi := (hag 1 (by decide)).1.symm
    have g2 : ρ.i 2 = v := (hag 2 (by decide)).1.symm
    show some ([.agg #[.int .u64 (ρ.i 0), .int .u64 (ρ.i 1)], .int .u64 (ρ.i 2)] : List Value) = _
    rw [g0, g1, g2]
  · intro ρ hag
    have g0 : ρ.i 0 = a.lo := (hag 0 (by decide)).1.symm
    have g1 : ρ.i 1 = a.hi := (hag 1 (by decide)).1.symm
    have g2 : ρ.i 2 = v := (hag 2 (by decide)).1.symm
    simp only [sT_uhas, Tr.asks, eqs, E.I, E.B, E.L, V.den, C.den, denL, den0, den0L, Option.map_some, Nat.add_zero, Nat.reduceAdd, and_true, Pu.eta, g0, g1, g2]
    refine ⟨fun c0 => ?_, fun c0 => ?_⟩
    · skip
      all_goals
        refine congrArg some ?_
        simp_all [not_lt_le]
    · skip
      all_goals
        refine congrArg some ?_
        simp_all [not_lt_le]
def sM_uhas (key : Nat) : Sm := ⟨55, key, [(true, [.int .u64, .int .u64]), (false, [.int .u64])], [(false, [.bool])], false⟩
def sI_uhas : Nat → List Int → Int
  | _, _ => 0
def sB_uhas : Nat → List Int → Bool
  | 0, [x0, x1, x2] => (fun (a : Pu) (v : Int) => (decide (a.lo ≤ v) && decide (v ≤ a.hi))) ⟨x0, x1⟩ x2
  | _, _ => false
theorem sK_uhas {sp : Spec} {key : Nat} (hI : sp.I key = sI_uhas) (hB : sp.B key = sB_uhas) : SmOk Try.prog sp (sM_uhas key) := by
  refine SmOk.of (.inl ⟨run_enter Try.func55 (by kernel_rfl) (by kernel_rfl), fun xs vals h => ?_⟩) (.inr (.inr ⟨_, rfl⟩))
  obtain ⟨_, _, _, p1, h1, rfl⟩ := shA h
  obtain ⟨_, _, _, d1_0, p1_0, rfl⟩ := cksC p1
  obtain ⟨x0, rfl, rfl, gx0⟩ := ckI d1_0
  obtain ⟨_, _, _, d1_1, p1_1, rfl⟩ := cksC p1_0
  obtain ⟨x1, rfl, rfl, gx1⟩ := ckI d1_1
  obtain ⟨rfl, rfl⟩ := cksN p1_1
  obtain ⟨_, _, _, d2, h2, rfl⟩ := shO h1
  obtain ⟨x2, rfl, rfl, gx2⟩ := ckI d2
  obtain ⟨rfl, rfl⟩ := shN h2
  refine ⟨_, sX_uhas ⟨x0, x1⟩ ⟨gx0, gx1⟩ x2 gx2, fun ρ v0 he => ?_⟩
  have he' : ρ.b (v0 + 0) = sp.B key 0 [x0, x1, x2] ∧ True := he
  simp only [hI, hB] at he'
  obtain ⟨e0, -⟩ := he'
  show some (.bool (ρ.b (v0 + 0)) : Value) = _
  rw [e0]
  rfl
def sT_ihas : Tr :=
(.br (.lt (.var 2) (.var 0))
 (.leaf (.one (.bool (.tt false))))
 (.leaf (.one (.bool (.not (.lt (.var 1) (.var 2)))))))
def sP_ihas : Spec := ⟨fun k => match k with | _ => fun _ _ => 0, fun k => match k with | _ => fun _ _ => false⟩
set_option maxRecDepth 100000 in
theorem sR_ihas : funK ⟨tys_XbA, []⟩ 200 Try.f56 [.agg [.int .i64 (.var 0), .int .i64 (.var 1)], .one (.int .i64 (.var 2))] ⟨[], [], [some .i64, some .i64, some .i64]⟩ = sT_ihas := by kernel_rfl
set_option maxRecDepth 100000 in
set_option maxHeartbeats 8000000 in
theorem sX_ihas (a : Pi) (ha : Pi.ok a) (v : Int) (hv : inK .i64 v = true) : (∀ w, Calls Try.prog 56 #[.agg #[.int .i64 a.lo, .int .i64 a.hi], .int .i64 v] w fun e w' => e = .returned (.bool ((decide (a.lo ≤ v) && decide (v ≤ a.hi)))) ∧ Ext w w') ∧ valIn (.bool ((decide (a.lo ≤ v) && decide (v ≤ a.hi)))) = true := by
  refine fun_calls (cx := ⟨tys_XbA, []⟩) (sp := sP_ihas) (t := sT_ihas) (by kernel_rfl) tysok_XbA (fun _ h => (by cases h)) (keys_of (by kernel_rfl)) Try.func56 ⟨fun n => ([a.lo, a.hi, v] : List Int).getD n 0, fun n => ([false, false, false] : List Bool).getD n false⟩ sR_ihas (by kernel_rfl) ?_ rfl (by intro p hp; cases hp) ?_ ?_
  · intro n k hk
    have hlt : n < 3 := by
      rcases Nat.lt_or_ge n 3 with h | h
      · exact h
      · rw [List.getElem?_eq_none h] at hk; cases hk
    rcases (show n = 0 ∨ n = 1 ∨ n = 2 by omega) with rfl | rfl | rfl
    · cases hk; exact ha.1
    · cases hk; exact ha.2
    · cases hk; exact hv
  · intro ρ hag
    have g0 : ρ.i 0 = a.lo := (hag 0 (by decide)).1.symm
    have g1 : ρ.i 1 = a.hi := (hag 1 (by decide)).1.symm
    have g2 : ρ.i 2 = v := (hag 2 (by decide)).1.symm
    show some ([.agg #[.int .i64 (ρ.i 0), .int .i64 (ρ.i 1)], .int .i64 (ρ.i 2)] : List Value) = _
    rw [g0, g1, g2]
  · intro ρ hag
    have g0 : ρ.i 0 = a.lo := (hag 0 (by decide)).1.symm
    have g1 : ρ.i 1 = a.hi := (hag 1 (by decide)).1.symm
    have g2 : ρ.i 2 = v := (hag 2 (by decide)).1.symm
    simp only [sT_ihas, Tr.asks, eqs, E.I, E.B, E.L, V.den, C.den, denL, den0, den0L, Option.map_some, Nat.add_zero, Nat.reduceAdd, and_true, Pi.eta, g0, g1, g2]
    refine ⟨fun c0 => ?_, fun c0 => ?_⟩
    · skip
      all_goals
        refine congrArg some ?_
        simp_all [not_lt_le]
    · skip
      all_goals
        refine congrArg some ?_
        simp_all [not_lt_le]
def sM_ihas (key : Nat) : Sm := ⟨56, key, [(true, [.int .i64, .int .i64]), (false, [.int .i64])], [(false, [.bool])], false⟩
def sI_ihas : Nat → List Int → Int
  | _, _ => 0
def sB_ihas : Nat → List Int → Bool
  | 0, [x0, x1, x2] => (fun (a : Pi) (v : Int) => (decide (a.lo ≤ v) && decide (v ≤ a.hi))) ⟨x0, x1⟩ x2
  | _, _ => false
theorem sK_ihas {sp : Spec} {key : Nat} (hI : sp.I key = sI_ihas) (hB : sp.B key = sB_ihas) : SmOk Try.prog sp (sM_ihas key) := by
  refine SmOk.of (.inl ⟨run_enter Try.func56 (by kernel_rfl) (by kernel_rfl), fun xs vals h => ?_⟩) (.inr (.inr ⟨_, rfl⟩))
  obtain ⟨_, _, _, p1, h1, rfl⟩ := shA h
  obtain ⟨_, _, _, d1_0, p1_0, rfl⟩ := cksC p1
  obtain ⟨x0, rfl, rfl, gx0⟩ := ckI d1_0
  obtain ⟨_, _, _, d1_1, p1_1, rfl⟩ := cksC p1_0
  obtain ⟨x1, rfl, rfl, gx1⟩ := ckI d1_1
  obtain ⟨rfl, rfl⟩ := cksN p1_1
  obtain ⟨_, _, _, d2, h2, rfl⟩ := shO h1
  obtain ⟨x2, rfl, rfl, gx2⟩ := ckI d2
  obtain ⟨rfl, rfl⟩ := shN h2
  refine ⟨_, sX_ihas ⟨x0, x1⟩ ⟨gx0, gx1⟩ x2 gx2, fun ρ v0 he => ?_⟩
  have he' : ρ.b (v0 + 0) = sp.B key 0 [x0, x1, x2] ∧ True := he
  simp only [hI, hB] at he'
  obtain ⟨e0, -⟩ := he'
  show some (.bool (ρ.b (v0 + 0)) : Value) = _
  rw [e0]
  rfl
def sT_umeet : Tr :=
(.leaf (.agg [.int .u64 (.mx (.var 0) (.var 2)), .int .u64 (.mn (.var 1) (.var 3))]))
def sP_umeet : Spec := ⟨fun k => match k with | _ => fun _ _ => 0, fun k => match k with | _ => fun _ _ => false⟩
set_option maxRecDepth 100000 in
theorem sR_umeet : funK ⟨tys_XbA, []⟩ 200 Try.f52 [.agg [.int .u64 (.var 0), .int .u64 (.var 1)], .agg [.int .u64 (.var 2), .int .u64 (.var 3)]] ⟨[], [], [some .u64, some .u64, some .u64, some .u64]⟩ = sT_umeet := by kernel_rfl
set_option maxRecDepth 100000 in
set_option maxHeartbeats 8000000 in
theorem sX_umeet (a : Pu) (ha : Pu.ok a) (b : Pu) (hb : Pu.ok b) : (∀ w, Calls Try.prog 52 #[.agg #[.int .u64 a.lo, .int .u64 a.hi], .agg #[.int .u64 b.lo, .int .u64 b.hi]] w fun e w' => e = .returned (.agg #[.int .u64 ((⟨max a.lo b.lo, min a.hi b.hi⟩ : Pu)).lo, .int .u64 ((⟨max a.lo b.lo, min a.hi b.hi⟩ : Pu)).hi]) ∧ Ext w w') ∧ valIn (.agg #[.int .u64 ((⟨max a.lo b.lo, min a.hi b.hi⟩ : Pu)).lo, .int .u64 ((⟨max a.lo b.lo, min a.hi b.hi⟩ : Pu)).hi]) = true := by
  refine fun_calls (cx := ⟨tys_XbA, []⟩) (sp := sP_umeet) (t := sT_umeet) (by kernel_rfl) tysok_XbA (fun _ h => (by cases h)) (keys_of (by kernel_rfl)) Try.func52 ⟨fun n => ([a.lo, a.hi, b.lo, b.hi] : List Int).getD n 0, fun n => ([false, false, false, false] : List Bool).getD n false⟩ sR_umeet (by kernel_rfl) ?_ rfl (by intro p hp; cases hp) ?_ ?_
  · intro n k hk
    have hlt : n < 4 := by
      rcases Nat.lt_or_ge n 4 with h | h
      · exact h
      · rw [List.getElem?_eq_none h] at hk; cases hk
    rcases (show n = 0 ∨ n = 1 ∨ n = 2 ∨ n = 3 by omega) with rfl | rfl | rfl | rfl
    · cases hk; exact ha.1
    · cases hk; exact ha.2
    · cases hk; exact hb.1
    · cases hk; exact hb.2
  · intro ρ hag
    have g0 : ρ.i 0 = a.lo := (hag 0 (by decide)).1.symm
    have g1 : ρ.i 1 = a.hi := (hag 1 (by decide)).1.symm
    have g2 : ρ.i 2 = b.lo := (hag 2 (by decide)).1.symm
    have g3 : ρ.i 3 = b.hi := (hag 3 (by decide)).1.symm
    show some ([.agg #[.int .u64 (ρ.i 0), .int .u64 (ρ.i 1)], .agg #[.int .u64 (ρ.i 2), .int .u64 (ρ.i 3)]] : List Value) = _
    rw [g0, g1, g2, g3]
  · intro ρ hag
    have g0 : ρ.i 0 = a.lo := (hag 0 (by decide)).1.symm
    have g1 : ρ.i 1 = a.hi := (hag 1 (by decide)).1.symm
    have g2 : ρ.i 2 = b.lo := (hag 2 (by decide)).1.symm
    have g3 : ρ.i 3 = b.hi := (hag 3 (by decide)).1.symm
    simp only [sT_umeet, Tr.asks, eqs, E.I, E.B, E.L, V.den, C.den, denL, den0, den0L, Option.map_some, Nat.add_zero, Nat.reduceAdd, and_true, Pu.eta, g0, g1, g2, g3]
def sM_umeet (key : Nat) : Sm := ⟨52, key, [(true, [.int .u64, .int .u64]), (true, [.int .u64, .int .u64])], [(true, [.int .u64, .int .u64])], false⟩
def sI_umeet : Nat → List Int → Int
  | 0, [x0, x1, x2, x3] => (fun (a : Pu) (b : Pu) => ((⟨max a.lo b.lo, min a.hi b.hi⟩ : Pu)).lo) ⟨x0, x1⟩ ⟨x2, x3⟩
  | 1, [x0, x1, x2, x3] => (fun (a : Pu) (b : Pu) => ((⟨max a.lo b.lo, min a.hi b.hi⟩ : Pu)).hi) ⟨x0, x1⟩ ⟨x2, x3⟩
  | _, _ => 0
def sB_umeet : Nat → List Int → Bool
  | _, _ => false
theorem sK_umeet {sp : Spec} {key : Nat} (hI : sp.I key = sI_umeet) (hB : sp.B key = sB_umeet) : SmOk Try.prog sp (sM_umeet key) := by
  refine SmOk.of (.inl ⟨run_enter Try.func52 (by kernel_rfl) (by kernel_rfl), fun xs vals h => ?_⟩) (.inr (.inl ⟨_, rfl⟩))
  obtain ⟨_, _, _, p1, h1, rfl⟩ := shA h
  obtain ⟨_, _, _, d1_0, p1_0, rfl⟩ := cksC p1
  obtain ⟨x0, rfl, rfl, gx0⟩ := ckI d1_0
  obtain ⟨_, _, _, d1_1, p1_1, rfl⟩ := cksC p1_0
  obtain ⟨x1, rfl, rfl, gx1⟩ := ckI d1_1
  obtain ⟨rfl, rfl⟩ := cksN p1_1
  obtain ⟨_, _, _, p2, h2, rfl⟩ := shA h1
  obtain ⟨_, _, _, d2_0, p2_0, rfl⟩ := cksC p2
  obtain ⟨x2, rfl, rfl, gx2⟩ := ckI d2_0
  obtain ⟨_, _, _, d2_1, p2_1, rfl⟩ := cksC p2_0
  obtain ⟨x3, rfl, rfl, gx3⟩ := ckI d2_1
  obtain ⟨rfl, rfl⟩ := cksN p2_1
  obtain ⟨rfl, rfl⟩ := shN h2
  refine ⟨_, sX_umeet ⟨x0, x1⟩ ⟨gx0, gx1⟩ ⟨x2, x3⟩ ⟨gx2, gx3⟩, fun ρ v0 he => ?_⟩
  have he' : ρ.i (v0 + 0) = sp.I key 0 [x0, x1, x2, x3] ∧ ρ.i (v0 + 1) = sp.I key 1 [x0, x1, x2, x3] ∧ True := he
  simp only [hI, hB] at he'
  obtain ⟨e0, e1, -⟩ := he'
  show some (.agg #[.int .u64 (ρ.i (v0 + 0)), .int .u64 (ρ.i (v0 + 1))] : Value) = _
  rw [e0, e1]
  rfl
def sT_ujoin : Tr :=
(.leaf (.agg [.int .u64 (.mn (.var 0) (.var 2)), .int .u64 (.mx (.var 1) (.var 3))]))
def sP_ujoin : Spec := ⟨fun k => match k with | _ => fun _ _ => 0, fun k => match k with | _ => fun _ _ => false⟩
set_option maxRecDepth 100000 in
theorem sR_ujoin : funK ⟨tys_XbA, []⟩ 200 Try.f68 [.agg [.int .u64 (.var 0), .int .u64 (.var 1)], .agg [.int .u64 (.var 2), .int .u64 (.var 3)]] ⟨[], [], [some .u64, some .u64, some .u64, some .u64]⟩ = sT_ujoin := by kernel_rfl
set_option maxRecDepth 100000 in
set_option maxHeartbeats 8000000 in
theorem sX_ujoin (a : Pu) (ha : Pu.ok a) (b : Pu) (hb : Pu.ok b) : (∀ w, Calls Try.prog 68 #[.agg #[.int .u64 a.lo, .int .u64 a.hi], .agg #[.int .u64 b.lo, .int .u64 b.hi]] w fun e w' => e = .returned (.agg #[.int .u64 ((⟨min a.lo b.lo, max a.hi b.hi⟩ : Pu)).lo, .int .u64 ((⟨min a.lo b.lo, max a.hi b.hi⟩ : Pu)).hi]) ∧ Ext w w') ∧ valIn (.agg #[.int .u64 ((⟨min a.lo b.lo, max a.hi b.hi⟩ : Pu)).lo, .int .u64 ((⟨min a.lo b.lo, max a.hi b.hi⟩ : Pu)).hi]) = true := by
  refine fun_calls (cx := ⟨tys_XbA, []⟩) (sp := sP_ujoin) (t := sT_ujoin) (by kernel_rfl) tysok_XbA (fun _ h => (by cases h)) (keys_of (by kernel_rfl)) Try.func68 ⟨fun n => ([a.lo, a.hi, b.lo, b.hi] : List Int).getD n 0, fun n => ([false, false, false, false] : List Bool).getD n false⟩ sR_ujoin (by kernel_rfl) ?_ rfl (by intro p hp; cases hp) ?_ ?_
  · intro n k hk
    have hlt : n < 4 := by
      rcases Nat.lt_or_ge n 4 with h | h
      · exact h
      · rw [List.getElem?_eq_none h] at hk; cases hk
    rcases (show n = 0 ∨ n = 1 ∨ n = 2 ∨ n = 3 by omega) with rfl | rfl | rfl | rfl
    · cases hk; exact ha.1
    · cases hk; exact ha.2
    · cases hk; exact hb.1
    · cases hk; exact hb.2
  · intro ρ hag
    have g0 : ρ.i 0 = a.lo := (hag 0 (by decide)).1.symm
    have g1 : ρ.i 1 = a.hi := (hag 1 (by decide)).1.symm
    have g2 : ρ.i 2 = b.lo := (hag 2 (by decide)).1.symm
    have g3 : ρ.i 3 = b.hi := (hag 3 (by decide)).1.symm
    show some ([.agg #[.int .u64 (ρ.i 0), .int .u64 (ρ.i 1)], .agg #[.int .u64 (ρ.i 2), .int .u64 (ρ.i 3)]] : List Value) = _
    rw [g0, g1, g2, g3]
  · intro ρ hag
    have g0 : ρ.i 0 = a.lo := (hag 0 (by decide)).1.symm
    have g1 : ρ.i 1 = a.hi := (hag 1 (by decide)).1.symm
    have g2 : ρ.i 2 = b.lo := (hag 2 (by decide)).1.symm
    have g3 : ρ.i 3 = b.hi := (hag 3 (by decide)).1.symm
    simp only [sT_ujoin, Tr.asks, eqs, E.I, E.B, E.L, V.den, C.den, denL, den0, den0L, Option.map_some, Nat.add_zero, Nat.reduceAdd, and_true, Pu.eta, g0, g1, g2, g3]
def sM_ujoin (key : Nat) : Sm := ⟨68, key, [(true, [.int .u64, .int .u64]), (true, [.int .u64, .int .u64])], [(true, [.int .u64, .int .u64])], false⟩
def sI_ujoin : Nat → List Int → Int
  | 0, [x0, x1, x2, x3] => (fun (a : Pu) (b : Pu) => ((⟨min a.lo b.lo, max a.hi b.hi⟩ : Pu)).lo) ⟨x0, x1⟩ ⟨x2, x3⟩
  | 1, [x0, x1, x2, x3] => (fun (a : Pu) (b : Pu) => ((⟨min a.lo b.lo, max a.hi b.hi⟩ : Pu)).hi) ⟨x0, x1⟩ ⟨x2, x3⟩
  | _, _ => 0
def sB_ujoin : Nat → List Int → Bool
  | _, _ => false
theorem sK_ujoin {sp : Spec} {key : Nat} (hI : sp.I key = sI_ujoin) (hB : sp.B key = sB_ujoin) : SmOk Try.prog sp (sM_ujoin key) := by
  refine SmOk.of (.inl ⟨run_enter Try.func68 (by kernel_rfl) (by kernel_rfl), fun xs vals h => ?_⟩) (.inr (.inl ⟨_, rfl⟩))
  obtain ⟨_, _, _, p1, h1, rfl⟩ := shA h
  obtain ⟨_, _, _, d1_0, p1_0, rfl⟩ := cksC p1
  obtain ⟨x0, rfl, rfl, gx0⟩ := ckI d1_0
  obtain ⟨_, _, _, d1_1, p1_1, rfl⟩ := cksC p1_0
  obtain ⟨x1, rfl, rfl, gx1⟩ := ckI d1_1
  obtain ⟨rfl, rfl⟩ := cksN p1_1
  obtain ⟨_, _, _, p2, h2, rfl⟩ := shA h1
  obtain ⟨_, _, _, d2_0, p2_0, rfl⟩ := cksC p2
  obtain ⟨x2, rfl, rfl, gx2⟩ := ckI d2_0
  obtain ⟨_, _, _, d2_1, p2_1, rfl⟩ := cksC p2_0
  obtain ⟨x3, rfl, rfl, gx3⟩ := ckI d2_1
  obtain ⟨rfl, rfl⟩ := cksN p2_1
  obtain ⟨rfl, rfl⟩ := shN h2
  refine ⟨_, sX_ujoin ⟨x0, x1⟩ ⟨gx0, gx1⟩ ⟨x2, x3⟩ ⟨gx2, gx3⟩, fun ρ v0 he => ?_⟩
  have he' : ρ.i (v0 + 0) = sp.I key 0 [x0, x1, x2, x3] ∧ ρ.i (v0 + 1) = sp.I key 1 [x0, x1, x2, x3] ∧ True := he
  simp only [hI, hB] at he'
  obtain ⟨e0, e1, -⟩ := he'
  show some (.agg #[.int .u64 (ρ.i (v0 + 0)), .int .u64 (ρ.i (v0 + 1))] : Value) = _
  rw [e0, e1]
  rfl
def sT_imeet : Tr :=
(.leaf (.agg [.int .i64 (.mx (.var 0) (.var 2)), .int .i64 (.mn (.var 1) (.var 3))]))
def sP_imeet : Spec := ⟨fun k => match k with | _ => fun _ _ => 0, fun k => match k with | _ => fun _ _ => false⟩
set_option maxRecDepth 100000 in
theorem sR_imeet : funK ⟨tys_XbA, []⟩ 200 Try.f53 [.agg [.int .i64 (.var 0), .int .i64 (.var 1)], .agg [.int .i64 (.var 2), .int .i64 (.var 3)]] ⟨[], [], [some .i64, some .i64, some .i64, some .i64]⟩ = sT_imeet := by kernel_rfl
set_option maxRecDepth 100000 in
set_option maxHeartbeats 8000000 in
theorem sX_imeet (a : Pi) (ha : Pi.ok a) (b : Pi) (hb : Pi.ok b) : (∀ w, Calls Try.prog 53 #[.agg #[.int .i64 a.lo, .int .i64 a.hi], .agg #[.int .i64 b.lo, .int .i64 b.hi]] w fun e w' => e = .returned (.agg #[.int .i64 ((⟨max a.lo b.lo, min a.hi b.hi⟩ : Pi)).lo, .int .i64 ((⟨max a.lo b.lo, min a.hi b.hi⟩ : Pi)).hi]) ∧ Ext w w') ∧ valIn (.agg #[.int .i64 ((⟨max a.lo b.lo, min a.hi b.hi⟩ : Pi)).lo, .int .i64 ((⟨max a.lo b.lo, min a.hi b.hi⟩ : Pi)).hi]) = true := by
  refine fun_calls (cx := ⟨tys_XbA, []⟩) (sp := sP_imeet) (t := sT_imeet) (by kernel_rfl) tysok_XbA (fun _ h => (by cases h)) (keys_of (by kernel_rfl)) Try.func53 ⟨fun n => ([a.lo, a.hi, b.lo, b.hi] : List Int).getD n 0, fun n => ([false, false, false, false] : List Bool).getD n false⟩ sR_imeet (by kernel_rfl) ?_ rfl (by intro p hp; cases hp) ?_ ?_
  · intro n k hk
    have hlt : n < 4 := by
      rcases Nat.lt_or_ge n 4 with h | h
      · exact h
      · rw [List.getElem?_eq_none h] at hk; cases hk
    rcases (show n = 0 ∨ n = 1 ∨ n = 2 ∨ n = 3 by omega) with rfl | rfl | rfl | rfl
    · cases hk; exact ha.1
    · cases hk; exact ha.2
    · cases hk; exact hb.1
    · cases hk; exact hb.2
  · intro ρ hag
    have g0 : ρ.i 0 = a.lo := (hag 0 (by decide)).1.symm
    have g1 : ρ.i 1 = a.hi := (hag 1 (by decide)).1.symm
    have g2 : ρ.i 2 = b.lo := (hag 2 (by decide)).1.symm
    have g3 : ρ.i 3 = b.hi := (hag 3 (by decide)).1.symm
    show some ([.agg #[.int .i64 (ρ.i 0), .int .i64 (ρ.i 1)], .agg #[.int .i64 (ρ.i 2), .int .i64 (ρ.i 3)]] : List Value) = _
    rw [g0, g1, g2, g3]
  · intro ρ hag
    have g0 : ρ.i 0 = a.lo := (hag 0 (by decide)).1.symm
    have g1 : ρ.i 1 = a.hi := (hag 1 (by decide)).1.symm
    have g2 : ρ.i 2 = b.lo := (hag 2 (by decide)).1.symm
    have g3 : ρ.i 3 = b.hi := (hag 3 (by decide)).1.symm
    simp only [sT_imeet, Tr.asks, eqs, E.I, E.B, E.L, V.den, C.den, denL, den0, den0L, Option.map_some, Nat.add_zero, Nat.reduceAdd, and_true, Pi.eta, g0, g1, g2, g3]
def sM_imeet (key : Nat) : Sm := ⟨53, key, [(true, [.int .i64, .int .i64]), (true, [.int .i64, .int .i64])], [(true, [.int .i64, .int .i64])], false⟩
def sI_imeet : Nat → List Int → Int
  | 0, [x0, x1, x2, x3] => (fun (a : Pi) (b : Pi) => ((⟨max a.lo b.lo, min a.hi b.hi⟩ : Pi)).lo) ⟨x0, x1⟩ ⟨x2, x3⟩
  | 1, [x0, x1, x2, x3] => (fun (a : Pi) (b : Pi) => ((⟨max a.lo b.lo, min a.hi b.hi⟩ : Pi)).hi) ⟨x0, x1⟩ ⟨x2, x3⟩
  | _, _ => 0
def sB_imeet : Nat → List Int → Bool
  | _, _ => false
theorem sK_imeet {sp : Spec} {key : Nat} (hI : sp.I key = sI_imeet) (hB : sp.B key = sB_imeet) : SmOk Try.prog sp (sM_imeet key) := by
  refine SmOk.of (.inl ⟨run_enter Try.func53 (by kernel_rfl) (by kernel_rfl), fun xs vals h => ?_⟩) (.inr (.inl ⟨_, rfl⟩))
  obtain ⟨_, _, _, p1, h1, rfl⟩ := shA h
  obtain ⟨_, _, _, d1_0, p1_0, rfl⟩ := cksC p1
  obtain ⟨x0, rfl, rfl, gx0⟩ := ckI d1_0
  obtain ⟨_, _, _, d1_1, p1_1, rfl⟩ := cksC p1_0
  obtain ⟨x1, rfl, rfl, gx1⟩ := ckI d1_1
  obtain ⟨rfl, rfl⟩ := cksN p1_1
  obtain ⟨_, _, _, p2, h2, rfl⟩ := shA h1
  obtain ⟨_, _, _, d2_0, p2_0, rfl⟩ := cksC p2
  obtain ⟨x2, rfl, rfl, gx2⟩ := ckI d2_0
  obtain ⟨_, _, _, d2_1, p2_1, rfl⟩ := cksC p2_0
  obtain ⟨x3, rfl, rfl, gx3⟩ := ckI d2_1
  obtain ⟨rfl, rfl⟩ := cksN p2_1
  obtain ⟨rfl, rfl⟩ := shN h2
  refine ⟨_, sX_imeet ⟨x0, x1⟩ ⟨gx0, gx1⟩ ⟨x2, x3⟩ ⟨gx2, gx3⟩, fun ρ v0 he => ?_⟩
  have he' : ρ.i (v0 + 0) = sp.I key 0 [x0, x1, x2, x3] ∧ ρ.i (v0 + 1) = sp.I key 1 [x0, x1, x2, x3] ∧ True := he
  simp only [hI, hB] at he'
  obtain ⟨e0, e1, -⟩ := he'
  show some (.agg #[.int .i64 (ρ.i (v0 + 0)), .int .i64 (ρ.i (v0 + 1))] : Value) = _
  rw [e0, e1]
  rfl
def sT_ijoin : Tr :=
(.leaf (.agg [.int .i64 (.mn (.var 0) (.var 2)), .int .i64 (.mx (.var 1) (.var 3))]))
def sP_ijoin : Spec := ⟨fun k => match k with | _ => fun _ _ => 0, fun k => match k with | _ => fun _ _ => false⟩
set_option maxRecDepth 100000 in
theorem sR_ijoin : funK ⟨tys_XbA, []⟩ 200 Try.f69 [.agg [.int .i64 (.var 0), .int .i64 (.var 1)], .agg [.int .i64 (.var 2), .int .i64 (.var 3)]] ⟨[], [], [some .i64, some .i64, some .i64, some .i64]⟩ = sT_ijoin := by kernel_rfl
set_option maxRecDepth 100000 in
set_option maxHeartbeats 8000000 in
theorem sX_ijoin (a : Pi) (ha : Pi.ok a) (b : Pi) (hb : Pi.ok b) : (∀ w, Calls Try.prog 69 #[.agg #[.int .i64 a.lo, .int .i64 a.hi], .agg #[.int .i64 b.lo, .int .i64 b.hi]] w fun e w' => e = .returned (.agg #[.int .i64 ((⟨min a.lo b.lo, max a.hi b.hi⟩ : Pi)).lo, .int .i64 ((⟨min a.lo b.lo, max a.hi b.hi⟩ : Pi)).hi]) ∧ Ext w w') ∧ valIn (.agg #[.int .i64 ((⟨min a.lo b.lo, max a.hi b.hi⟩ : Pi)).lo, .int .i64 ((⟨min a.lo b.lo, max a.hi b.hi⟩ : Pi)).hi]) = true := by
  refine fun_calls (cx := ⟨tys_XbA, []⟩) (sp := sP_ijoin) (t := sT_ijoin) (by kernel_rfl) tysok_XbA (fun _ h => (by cases h)) (keys_of (by kernel_rfl)) Try.func69 ⟨fun n => ([a.lo, a.hi, b.lo, b.hi] : List Int).getD n 0, fun n => ([false, false, false, false] : List Bool).getD n false⟩ sR_ijoin (by kernel_rfl) ?_ rfl (by intro p hp; cases hp) ?_ ?_
  · intro n k hk
    have hlt : n < 4 := by
      rcases Nat.lt_or_ge n 4 with h | h
      · exact h
      · rw [List.getElem?_eq_none h] at hk; cases hk
    rcases (show n = 0 ∨ n = 1 ∨ n = 2 ∨ n = 3 by omega) with rfl | rfl | rfl | rfl
    · cases hk; exact ha.1
    · cases hk; exact ha.2
    · cases hk; exact hb.1
    · cases hk; exact hb.2
  · intro ρ hag
    have g0 : ρ.i 0 = a.lo := (hag 0 (by decide)).1.symm
    have g1 : ρ.i 1 = a.hi := (hag 1 (by decide)).1.symm
    have g2 : ρ.i 2 = b.lo := (hag 2 (by decide)).1.symm
    have g3 : ρ.i 3 = b.hi := (hag 3 (by decide)).1.symm
    show some ([.agg #[.int .i64 (ρ.i 0), .int .i64 (ρ.i 1)], .agg #[.int .i64 (ρ.i 2), .int .i64 (ρ.i 3)]] : List Value) = _
    rw [g0, g1, g2, g3]
  · intro ρ hag
    have g0 : ρ.i 0 = a.lo := (hag 0 (by decide)).1.symm
    have g1 : ρ.i 1 = a.hi := (hag 1 (by decide)).1.symm
    have g2 : ρ.i 2 = b.lo := (hag 2 (by decide)).1.symm
    have g3 : ρ.i 3 = b.hi := (hag 3 (by decide)).1.symm
    simp only [sT_ijoin, Tr.asks, eqs, E.I, E.B, E.L, V.den, C.den, denL, den0, den0L, Option.map_some, Nat.add_zero, Nat.reduceAdd, and_true, Pi.eta, g0, g1, g2, g3]
def sM_ijoin (key : Nat) : Sm := ⟨69, key, [(true, [.int .i64, .int .i64]), (true, [.int .i64, .int .i64])], [(true, [.int .i64, .int .i64])], false⟩
def sI_ijoin : Nat → List Int → Int
  | 0, [x0, x1, x2, x3] => (fun (a : Pi) (b : Pi) => ((⟨min a.lo b.lo, max a.hi b.hi⟩ : Pi)).lo) ⟨x0, x1⟩ ⟨x2, x3⟩
  | 1, [x0, x1, x2, x3] => (fun (a : Pi) (b : Pi) => ((⟨min a.lo b.lo, max a.hi b.hi⟩ : Pi)).hi) ⟨x0, x1⟩ ⟨x2, x3⟩
  | _, _ => 0
def sB_ijoin : Nat → List Int → Bool
  | _, _ => false
theorem sK_ijoin {sp : Spec} {key : Nat} (hI : sp.I key = sI_ijoin) (hB : sp.B key = sB_ijoin) : SmOk Try.prog sp (sM_ijoin key) := by
  refine SmOk.of (.inl ⟨run_enter Try.func69 (by kernel_rfl) (by kernel_rfl), fun xs vals h => ?_⟩) (.inr (.inl ⟨_, rfl⟩))
  obtain ⟨_, _, _, p1, h1, rfl⟩ := shA h
  obtain ⟨_, _, _, d1_0, p1_0, rfl⟩ := cksC p1
  obtain ⟨x0, rfl, rfl, gx0⟩ := ckI d1_0
  obtain ⟨_, _, _, d1_1, p1_1, rfl⟩ := cksC p1_0
  obtain ⟨x1, rfl, rfl, gx1⟩ := ckI d1_1
  obtain ⟨rfl, rfl⟩ := cksN p1_1
  obtain ⟨_, _, _, p2, h2, rfl⟩ := shA h1
  obtain ⟨_, _, _, d2_0, p2_0, rfl⟩ := cksC p2
  obtain ⟨x2, rfl, rfl, gx2⟩ := ckI d2_0
  obtain ⟨_, _, _, d2_1, p2_1, rfl⟩ := cksC p2_0
  obtain ⟨x3, rfl, rfl, gx3⟩ := ckI d2_1
  obtain ⟨rfl, rfl⟩ := cksN p2_1
  obtain ⟨rfl, rfl⟩ := shN h2
  refine ⟨_, sX_ijoin ⟨x0, x1⟩ ⟨gx0, gx1⟩ ⟨x2, x3⟩ ⟨gx2, gx3⟩, fun ρ v0 he => ?_⟩
  have he' : ρ.i (v0 + 0) = sp.I key 0 [x0, x1, x2, x3] ∧ ρ.i (v0 + 1) = sp.I key 1 [x0, x1, x2, x3] ∧ True := he
  simp only [hI, hB] at he'
  obtain ⟨e0, e1, -⟩ := he'
  show some (.agg #[.int .i64 (ρ.i (v0 + 0)), .int .i64 (ρ.i (v0 + 1))] : Value) = _
  rw [e0, e1]
  rfl
def sT_of : Tr :=
(.leaf (.agg [.int .u64 (.var 0), .int .u64 (.var 1), .int .i64 (.var 2), .int .i64 (.var 3)]))
def sP_of : Spec := ⟨fun k => match k with | _ => fun _ _ => 0, fun k => match k with | _ => fun _ _ => false⟩
set_option maxRecDepth 100000 in
theorem sR_of : funK ⟨tys_XbA, []⟩ 200 Try.f54 [.agg [.int .u64 (.var 0), .int .u64 (.var 1)], .agg [.int .i64 (.var 2), .int .i64 (.var 3)]] ⟨[], [], [some .u64, some .u64, some .i64, some .i64]⟩ = sT_of := by kernel_rfl
set_option maxRecDepth 100000 in
set_option maxHeartbeats 8000000 in
theorem sX_of (a : Pu) (ha : Pu.ok a) (b : Pi) (hb : Pi.ok b) : (∀ w, Calls Try.prog 54 #[.agg #[.int .u64 a.lo, .int .u64 a.hi], .agg #[.int .i64 b.lo, .int .i64 b.hi]] w fun e w' => e = .returned (.agg #[.int .u64 ((⟨a.lo, a.hi, b.lo, b.hi⟩ : Rg)).ul, .int .u64 ((⟨a.lo, a.hi, b.lo, b.hi⟩ : Rg)).uh, .int .i64 ((⟨a.lo, a.hi, b.lo, b.hi⟩ : Rg)).sl, .int .i64 ((⟨a.lo, a.hi, b.lo, b.hi⟩ : Rg)).sh]) ∧ Ext w w') ∧ valIn (.agg #[.int .u64 ((⟨a.lo, a.hi, b.lo, b.hi⟩ : Rg)).ul, .int .u64 ((⟨a.lo, a.hi, b.lo, b.hi⟩ : Rg)).uh, .int .i64 ((⟨a.lo, a.hi, b.lo, b.hi⟩ : Rg)).sl, .int .i64 ((⟨a.lo, a.hi, b.lo, b.hi⟩ : Rg)).sh]) = true := by
  refine fun_calls (cx := ⟨tys_XbA, []⟩) (sp := sP_of) (t := sT_of) (by kernel_rfl) tysok_XbA (fun _ h => (by cases h)) (keys_of (by kernel_rfl)) Try.func54 ⟨fun n => ([a.lo, a.hi, b.lo, b.hi] : List Int).getD n 0, fun n => ([false, false, false, false] : List Bool).getD n false⟩ sR_of (by kernel_rfl) ?_ rfl (by intro p hp; cases hp) ?_ ?_
  · intro n k hk
    have hlt : n < 4 := by
      rcases Nat.lt_or_ge n 4 with h | h
      · exact h
      · rw [List.getElem?_eq_none h] at hk; cases hk
    rcases (show n = 0 ∨ n = 1 ∨ n = 2 ∨ n = 3 by omega) with rfl | rfl | rfl | rfl
    · cases hk; exact ha.1
    · cases hk; exact ha.2
    · cases hk; exact hb.1
    · cases hk; exact hb.2
  · intro ρ hag
    have g0 : ρ.i 0 = a.lo := (hag 0 (by decide)).1.symm
    have g1 : ρ.i 1 = a.hi := (hag 1 (by decide)).1.symm
    have g2 : ρ.i 2 = b.lo := (hag 2 (by decide)).1.symm
    have g3 : ρ.i 3 = b.hi := (hag 3 (by decide)).1.symm
    show some ([.agg #[.int .u64 (ρ.i 0), .int .u64 (ρ.i 1)], .agg #[.int .i64 (ρ.i 2), .int .i64 (ρ.i 3)]] : List Value) = _
    rw [g0, g1, g2, g3]
  · intro ρ hag
    have g0 : ρ.i 0 = a.lo := (hag 0 (by decide)).1.symm
    have g1 : ρ.i 1 = a.hi := (hag 1 (by decide)).1.symm
    have g2 : ρ.i 2 = b.lo := (hag 2 (by decide)).1.symm
    have g3 : ρ.i 3 = b.hi := (hag 3 (by decide)).1.symm
    simp only [sT_of, Tr.asks, eqs, E.I, E.B, E.L, V.den, C.den, denL, den0, den0L, Option.map_some, Nat.add_zero, Nat.reduceAdd, and_true, Pi.eta, Pu.eta, g0, g1, g2, g3]
def sM_of (key : Nat) : Sm := ⟨54, key, [(true, [.int .u64, .int .u64]), (true, [.int .i64, .int .i64])], [(true, [.int .u64, .int .u64, .int .i64, .int .i64])], false⟩
def sI_of : Nat → List Int → Int
  | 0, [x0, x1, x2, x3] => (fun (a : Pu) (b : Pi) => ((⟨a.lo, a.hi, b.lo, b.hi⟩ : Rg)).ul) ⟨x0, x1⟩ ⟨x2, x3⟩
  | 1, [x0, x1, x2, x3] => (fun (a : Pu) (b : Pi) => ((⟨a.lo, a.hi, b.lo, b.hi⟩ : Rg)).uh) ⟨x0, x1⟩ ⟨x2, x3⟩
  | 2, [x0, x1, x2, x3] => (fun (a : Pu) (b : Pi) => ((⟨a.lo, a.hi, b.lo, b.hi⟩ : Rg)).sl) ⟨x0, x1⟩ ⟨x2, x3⟩
  | 3, [x0, x1, x2, x3] => (fun (a : Pu) (b : Pi) => ((⟨a.lo, a.hi, b.lo, b.hi⟩ : Rg)).sh) ⟨x0, x1⟩ ⟨x2, x3⟩
  | _, _ => 0
def sB_of : Nat → List Int → Bool
  | _, _ => false
theorem sK_of {sp : Spec} {key : Nat} (hI : sp.I key = sI_of) (hB : sp.B key = sB_of) : SmOk Try.prog sp (sM_of key) := by
  refine SmOk.of (.inl ⟨run_enter Try.func54 (by kernel_rfl) (by kernel_rfl), fun xs vals h => ?_⟩) (.inr (.inl ⟨_, rfl⟩))
  obtain ⟨_, _, _, p1, h1, rfl⟩ := shA h
  obtain ⟨_, _, _, d1_0, p1_0, rfl⟩ := cksC p1
  obtain ⟨x0, rfl, rfl, gx0⟩ := ckI d1_0
  obtain ⟨_, _, _, d1_1, p1_1, rfl⟩ := cksC p1_0
  obtain ⟨x1, rfl, rfl, gx1⟩ := ckI d1_1
  obtain ⟨rfl, rfl⟩ := cksN p1_1
  obtain ⟨_, _, _, p2, h2, rfl⟩ := shA h1
  obtain ⟨_, _, _, d2_0, p2_0, rfl⟩ := cksC p2
  obtain ⟨x2, rfl, rfl, gx2⟩ := ckI d2_0
  obtain ⟨_, _, _, d2_1, p2_1, rfl⟩ := cksC p2_0
  obtain ⟨x3, rfl, rfl, gx3⟩ := ckI d2_1
  obtain ⟨rfl, rfl⟩ := cksN p2_1
  obtain ⟨rfl, rfl⟩ := shN h2
  refine ⟨_, sX_of ⟨x0, x1⟩ ⟨gx0, gx1⟩ ⟨x2, x3⟩ ⟨gx2, gx3⟩, fun ρ v0 he => ?_⟩
  have he' : ρ.i (v0 + 0) = sp.I key 0 [x0, x1, x2, x3] ∧ ρ.i (v0 + 1) = sp.I key 1 [x0, x1, x2, x3] ∧ ρ.i (v0 + 2) = sp.I key 2 [x0, x1, x2, x3] ∧ ρ.i (v0 + 3) = sp.I key 3 [x0, x1, x2, x3] ∧ True := he
  simp only [hI, hB] at he'
  obtain ⟨e0, e1, e2, e3, -⟩ := he'
  show some (.agg #[.int .u64 (ρ.i (v0 + 0)), .int .u64 (ρ.i (v0 + 1)), .int .i64 (ρ.i (v0 + 2)), .int .i64 (ρ.i (v0 + 3))] : Value) = _
  rw [e0, e1, e2, e3]
  rfl
def sT_may : Tr :=
(.call 0 [.int .u64, .int .u64] (.cons (.var 0) (.cons (.var 1) (.cons (.var 2) (.cons (.var 3) .nil)))) 4
 (.call 2 [.bool] (.cons (.var 4) (.cons (.var 5) .nil)) 6
 (.br (.bvar 6)
 (.call 1 [.int .i64, .int .i64] (.cons (.var 0) (.cons (.var 1) (.cons (.var 2) (.cons (.var 3) .nil)))) 7
  (.call 3 [.bool] (.cons (.var 7) (.cons (.var 8) .nil)) 9
  (.leaf (.one (.bool (.bvar 9))))))
 (.leaf (.one (.bool (.tt false)))))))
def sP_may : Spec := ⟨fun k => match k with | 0 => sI_uns | 1 => sI_sig | 2 => sI_umay | 3 => sI_imay | _ => fun _ _ => 0, fun k => match k with | 0 => sB_uns | 1 => sB_sig | 2 => sB_umay | 3 => sB_imay | _ => fun _ _ => false⟩
set_option maxRecDepth 100000 in
theorem sR_may : funK ⟨tys_XbA, [sM_uns 0, sM_sig 1, sM_umay 2, sM_imay 3]⟩ 200 Try.f16 [.agg [.int .u64 (.var 0), .int .u64 (.var 1), .int .i64 (.var 2), .int .i64 (.var 3)]] ⟨[], [], [some .u64, some .u64, some .i64, some .i64]⟩ = sT_may := by kernel_rfl
set_option maxRecDepth 100000 in
set_option maxHeartbeats 8000000 in
theorem sX_may (a : Rg) (ha : Rg.ok a) : (∀ w, Calls Try.prog 16 #[.agg #[.int .u64 a.ul, .int .u64 a.uh, .int .i64 a.sl, .int .i64 a.sh]] w fun e w' => e = .returned (.bool (bmay a)) ∧ Ext w w') ∧ valIn (.bool (bmay a)) = true := by
  refine fun_calls (cx := ⟨tys_XbA, [sM_uns 0, sM_sig 1, sM_umay 2, sM_imay 3]⟩) (sp := sP_may) (t := sT_may) (by kernel_rfl) tysok_XbA (List.forall_mem_cons.2 ⟨sK_uns rfl rfl, List.forall_mem_cons.2 ⟨sK_sig rfl rfl, List.forall_mem_cons.2 ⟨sK_umay rfl rfl, List.forall_mem_cons.2 ⟨sK_imay rfl rfl, fun _ h => (by cases h)⟩⟩⟩⟩) (keys_of (by kernel_rfl)) Try.func16 ⟨fun n => ([a.ul, a.uh, a.sl, a.sh] : List Int).getD n 0, fun n => ([false, false, false, false] : List Bool).getD n false⟩ sR_may (by kernel_rfl) ?_ rfl (by intro p hp; cases hp) ?_ ?_
  · intro n k hk
    have hlt : n < 4 := by
      rcases Nat.lt_or_ge n 4 with h | h
      · exact h
      · rw [List.getElem?_eq_none h] at hk; cases hk
    rcases (show n = 0 ∨ n = 1 ∨ n = 2 ∨ n = 3 by omega) with rfl | rfl | rfl | rfl
    · cases hk; exact ha.1
    · cases hk; exact ha.2.1
    · cases hk; exact ha.2.2.1
    · cases hk; exact ha.2.2.2
  · intro ρ hag
    have g0 : ρ.i 0 = a.ul := (hag 0 (by decide)).1.symm
    have g1 : ρ.i 1 = a.uh := (hag 1 (by decide)).1.symm
    have g2 : ρ.i 2 = a.sl := (hag 2 (by decide)).1.symm
    have g3 : ρ.i 3 = a.sh := (hag 3 (by decide)).1.symm
    show some ([.agg #[.int .u64 (ρ.i 0), .int .u64 (ρ.i 1), .int .i64 (ρ.i 2), .int .i64 (ρ.i 3)]] : List Value) = _
    rw [g0, g1, g2, g3]
  · intro ρ hag
    have g0 : ρ.i 0 = a.ul := (hag 0 (by decide)).1.symm
    have g1 : ρ.i 1 = a.uh := (hag 1 (by decide)).1.symm
    have g2 : ρ.i 2 = a.sl := (hag 2 (by decide)).1.symm
    have g3 : ρ.i 3 = a.sh := (hag 3 (by decide)).1.symm
    simp only [sT_may, Tr.asks, eqs, E.I, E.B, E.L, V.den, C.den, denL, den0, den0L, Option.map_some, Nat.add_zero, Nat.reduceAdd, and_true, Rg.eta, g0, g1, g2, g3]
    simp only [sP_may, b01, Pi.eta, Pu.eta, Rg.eta, sI_uns, sB_uns, sI_sig, sB_sig, sI_umay, sB_umay, sI_imay, sB_imay]
    rintro ⟨e4, e5⟩
    (try simp only [e4, e5, Pi.eta, Pu.eta, Rg.eta])
    (try clear e4 e5)
    intro e6
    (try simp only [e6, Pi.eta, Pu.eta, Rg.eta])
    (try clear e6)
    refine ⟨fun c0 => ?_, fun c0 => ?_⟩
    · skip
      rintro ⟨e7, e8⟩
      (try simp only [e7, e8, Pi.eta, Pu.eta, Rg.eta])
      (try clear e7 e8)
      intro e9
      (try simp only [e9, Pi.eta, Pu.eta, Rg.eta])
      (try clear e9)
      all_goals
        refine congrArg some ?_
        (unfold bmay; simp_all; try (intros; omega))
    · skip
      all_goals
        refine congrArg some ?_
        (unfold bmay; simp_all; try (intros; omega))
def sM_may (key : Nat) : Sm := ⟨16, key, [(true, [.int .u64, .int .u64, .int .i64, .int .i64])], [(false, [.bool])], false⟩
def sI_may : Nat → List Int → Int
  | _, _ => 0
def sB_may : Nat → List Int → Bool
  | 0, [x0, x1, x2, x3] => (fun (a : Rg) => bmay a) ⟨x0, x1, x2, x3⟩
  | _, _ => false
theorem sK_may {sp : Spec} {key : Nat} (hI : sp.I key = sI_may) (hB : sp.B key = sB_may) : SmOk Try.prog sp (sM_may key) := by
  refine SmOk.of (.inl ⟨run_enter Try.func16 (by kernel_rfl) (by kernel_rfl), fun xs vals h => ?_⟩) (.inr (.inr ⟨_, rfl⟩))
  obtain ⟨_, _, _, p1, h1, rfl⟩ := shA h
  obtain ⟨_, _, _, d1_0, p1_0, rfl⟩ := cksC p1
  obtain ⟨x0, rfl, rfl, gx0⟩ := ckI d1_0
  obtain ⟨_, _, _, d1_1, p1_1, rfl⟩ := cksC p1_0
  obtain ⟨x1, rfl, rfl, gx1⟩ := ckI d1_1
  obtain ⟨_, _, _, d1_2, p1_2, rfl⟩ := cksC p1_1
  obtain ⟨x2, rfl, rfl, gx2⟩ := ckI d1_2
  obtain ⟨_, _, _, d1_3, p1_3, rfl⟩ := cksC p1_2
  obtain ⟨x3, rfl, rfl, gx3⟩ := ckI d1_3
  obtain ⟨rfl, rfl⟩ := cksN p1_3
  obtain ⟨rfl, rfl⟩ := shN h1
  refine ⟨_, sX_may ⟨x0, x1, x2, x3⟩ ⟨gx0, gx1, gx2, gx3⟩, fun ρ v0 he => ?_⟩
  have he' : ρ.b (v0 + 0) = sp.B key 0 [x0, x1, x2, x3] ∧ True := he
  simp only [hI, hB] at he'
  obtain ⟨e0, -⟩ := he'
  show some (.bool (ρ.b (v0 + 0)) : Value) = _
  rw [e0]
  rfl
def sT_all : Tr :=
(.call 0 [.int .u64, .int .u64, .int .i64, .int .i64] (.cons (.lit 0) (.cons (.lit 18446744073709551615) (.cons (.lit (-9223372036854775808)) (.cons (.lit 9223372036854775807) .nil)))) 0
 (.leaf (.agg [.int .u64 (.var 0), .int .u64 (.var 1), .int .i64 (.var 2), .int .i64 (.var 3)])))
def sP_all : Spec := ⟨fun k => match k with | 0 => sI_of | _ => fun _ _ => 0, fun k => match k with | 0 => sB_of | _ => fun _ _ => false⟩
set_option maxRecDepth 100000 in
theorem sR_all : funK ⟨tys_XbA, [sM_of 0]⟩ 200 Try.f13 [] ⟨[], [], []⟩ = sT_all := by kernel_rfl
set_option maxRecDepth 100000 in
set_option maxHeartbeats 8000000 in
theorem sX_all  : (∀ w, Calls Try.prog 13 #[] w fun e w' => e = .returned (.agg #[.int .u64 ball.ul, .int .u64 ball.uh, .int .i64 ball.sl, .int .i64 ball.sh]) ∧ Ext w w') ∧ valIn (.agg #[.int .u64 ball.ul, .int .u64 ball.uh, .int .i64 ball.sl, .int .i64 ball.sh]) = true := by
  refine fun_calls (cx := ⟨tys_XbA, [sM_of 0]⟩) (sp := sP_all) (t := sT_all) (by kernel_rfl) tysok_XbA (List.forall_mem_cons.2 ⟨sK_of rfl rfl, fun _ h => (by cases h)⟩) (keys_of (by kernel_rfl)) Try.func13 ⟨fun n => ([] : List Int).getD n 0, fun n => ([] : List Bool).getD n false⟩ sR_all (by kernel_rfl) ?_ rfl (by intro p hp; cases hp) ?_ ?_
  · intro n k hk
    have hlt : n < 0 := by
      rcases Nat.lt_or_ge n 0 with h | h
      · exact h
      · rw [List.getElem?_eq_none h] at hk; cases hk
    omega
  · intro ρ hag
    show some ([] : List Value) = _
    rfl
  · intro ρ hag
    simp only [sT_all, Tr.asks, eqs, E.I, E.B, E.L, V.den, C.den, denL, den0, den0L, Option.map_some, Nat.add_zero, Nat.reduceAdd, and_true]
    simp only [sP_all, b01, Pi.eta, Pu.eta, Rg.eta, sI_of, sB_of]
    rintro ⟨e0, e1, e2, e3⟩
    (try simp only [e0, e1, e2, e3, Pi.eta, Pu.eta, Rg.eta])
    (try clear e0 e1 e2 e3)
    all_goals
      refine congrArg some ?_
      rfl
def sM_all (key : Nat) : Sm := ⟨13, key, [], [(true, [.int .u64, .int .u64, .int .i64, .int .i64])], false⟩
def sI_all : Nat → List Int → Int
  | 0, [] => ball.ul
  | 1, [] => ball.uh
  | 2, [] => ball.sl
  | 3, [] => ball.sh
  | _, _ => 0
def sB_all : Nat → List Int → Bool
  | _, _ => false
theorem sK_all {sp : Spec} {key : Nat} (hI : sp.I key = sI_all) (hB : sp.B key = sB_all) : SmOk Try.prog sp (sM_all key) := by
  refine SmOk.of (.inl ⟨run_enter Try.func13 (by kernel_rfl) (by kernel_rfl), fun xs vals h => ?_⟩) (.inr (.inl ⟨_, rfl⟩))
  obtain ⟨rfl, rfl⟩ := shN h
  refine ⟨_, sX_all , fun ρ v0 he => ?_⟩
  have he' : ρ.i (v0 + 0) = sp.I key 0 [] ∧ ρ.i (v0 + 1) = sp.I key 1 [] ∧ ρ.i (v0 + 2) = sp.I key 2 [] ∧ ρ.i (v0 + 3) = sp.I key 3 [] ∧ True := he
  simp only [hI, hB] at he'
  obtain ⟨e0, e1, e2, e3, -⟩ := he'
  show some (.agg #[.int .u64 (ρ.i (v0 + 0)), .int .u64 (ρ.i (v0 + 1)), .int .i64 (ρ.i (v0 + 2)), .int .i64 (ρ.i (v0 + 3))] : Value) = _
  rw [e0, e1, e2, e3]
  rfl
def sT_one : Tr :=
(.call 0 [.int .u64, .int .u64, .int .i64, .int .i64] (.cons (.var 0) (.cons (.var 0) (.cons (.conv .i64 (.var 0)) (.cons (.conv .i64 (.var 0)) .nil)))) 1
 (.leaf (.agg [.int .u64 (.var 1), .int .u64 (.var 2), .int .i64 (.var 3), .int .i64 (.var 4)])))
def sP_one : Spec := ⟨fun k => match k with | 0 => sI_of | _ => fun _ _ => 0, fun k => match k with | 0 => sB_of | _ => fun _ _ => false⟩
set_option maxRecDepth 100000 in
theorem sR_one : funK ⟨tys_XbA, [sM_of 0]⟩ 200 Try.f25 [.one (.int .u64 (.var 0))] ⟨[], [], [some .u64]⟩ = sT_one := by kernel_rfl
set_option maxRecDepth 100000 in
set_option maxHeartbeats 8000000 in
theorem sX_one (v : Int) (hv : inK .u64 v = true) : (∀ w, Calls Try.prog 25 #[.int .u64 v] w fun e w' => e = .returned (.agg #[.int .u64 (bone v).ul, .int .u64 (bone v).uh, .int .i64 (bone v).sl, .int .i64 (bone v).sh]) ∧ Ext w w') ∧ valIn (.agg #[.int .u64 (bone v).ul, .int .u64 (bone v).uh, .int .i64 (bone v).sl, .int .i64 (bone v).sh]) = true := by
  refine fun_calls (cx := ⟨tys_XbA, [sM_of 0]⟩) (sp := sP_one) (t := sT_one) (by kernel_rfl) tysok_XbA (List.forall_mem_cons.2 ⟨sK_of rfl rfl, fun _ h => (by cases h)⟩) (keys_of (by kernel_rfl)) Try.func25 ⟨fun n => ([v] : List Int).getD n 0, fun n => ([false] : List Bool).getD n false⟩ sR_one (by kernel_rfl) ?_ rfl (by intro p hp; cases hp) ?_ ?_
  · intro n k hk
    have hlt : n < 1 := by
      rcases Nat.lt_or_ge n 1 with h | h
      · exact h
      · rw [List.getElem?_eq_none h] at hk; cases hk
    rcases (show n = 0 by omega) with rfl
    · cases hk; exact hv
  · intro ρ hag
    have g0 : ρ.i 0 = v := (hag 0 (by decide)).1.symm
    show some ([.int .u64 (ρ.i 0)] : List Value) = _
    rw [g0]
  · intro ρ hag
    have g0 : ρ.i 0 = v := (hag 0 (by decide)).1.symm
    simp only [sT_one, Tr.asks, eqs, E.I, E.B, E.L, V.den, C.den, denL, den0, den0L, Option.map_some, Nat.add_zero, Nat.reduceAdd, and_true, g0]
    simp only [sP_one, b01, Pi.eta, Pu.eta, Rg.eta, sI_of, sB_of]
    rintro ⟨e1, e2, e3, e4⟩
    (try simp only [e1, e2, e3, e4, Pi.eta, Pu.eta, Rg.eta])
    (try clear e1 e2 e3 e4)
    all_goals
      refine congrArg some ?_
      simp [bone, s64_wrap]
def sM_one (key : Nat) : Sm := ⟨25, key, [(false, [.int .u64])], [(true, [.int .u64, .int .u64, .int .i64, .int .i64])], false⟩
def sI_one : Nat → List Int → Int
  | 0, [x0] => (fun (v : Int) => (bone v).ul) x0
  | 1, [x0] => (fun (v : Int) => (bone v).uh) x0
  | 2, [x0] => (fun (v : Int) => (bone v).sl) x0
  | 3, [x0] => (fun (v : Int) => (bone v).sh) x0
  | _, _ => 0
def sB_one : Nat → List Int → Bool
  | _, _ => false
theorem sK_one {sp : Spec} {key : Nat} (hI : sp.I key = sI_one) (hB : sp.B key = sB_one) : SmOk Try.prog sp (sM_one key) := by
  refine SmOk.of (.inl ⟨run_enter Try.func25 (by kernel_rfl) (by kernel_rfl), fun xs vals h => ?_⟩) (.inr (.inl ⟨_, rfl⟩))
  obtain ⟨_, _, _, d1, h1, rfl⟩ := shO h
  obtain ⟨x0, rfl, rfl, gx0⟩ := ckI d1
  obtain ⟨rfl, rfl⟩ := shN h1
  refine ⟨_, sX_one x0 gx0, fun ρ v0 he => ?_⟩
  have he' : ρ.i (v0 + 0) = sp.I key 0 [x0] ∧ ρ.i (v0 + 1) = sp.I key 1 [x0] ∧ ρ.i (v0 + 2) = sp.I key 2 [x0] ∧ ρ.i (v0 + 3) = sp.I key 3 [x0] ∧ True := he
  simp only [hI, hB] at he'
  obtain ⟨e0, e1, e2, e3, -⟩ := he'
  show some (.agg #[.int .u64 (ρ.i (v0 + 0)), .int .u64 (ρ.i (v0 + 1)), .int .i64 (ρ.i (v0 + 2)), .int .i64 (ρ.i (v0 + 3))] : Value) = _
  rw [e0, e1, e2, e3]
  rfl
def sT_has : Tr :=
(.call 0 [.bool] (.cons (.var 0) (.cons (.var 1) (.cons (.var 2) (.cons (.var 3) .nil)))) 5
 (.br (.bvar 5)
 (.call 1 [.int .u64, .int .u64] (.cons (.var 0) (.cons (.var 1) (.cons (.var 2) (.cons (.var 3) .nil)))) 6
  (.call 3 [.bool] (.cons (.var 6) (.cons (.var 7) (.cons (.var 4) .nil))) 8
  (.br (.bvar 8)
  (.call 2 [.int .i64, .int .i64] (.cons (.var 0) (.cons (.var 1) (.cons (.var 2) (.cons (.var 3) .nil)))) 9
   (.call 4 [.bool] (.cons (.var 9) (.cons (.var 10) (.cons (.conv .i64 (.var 4)) .nil))) 11
   (.leaf (.one (.bool (.bvar 11))))))
  (.leaf (.one (.bool (.tt false)))))))
 (.leaf (.one (.bool (.tt false))))))
def sP_has : Spec := ⟨fun k => match k with | 0 => sI_may | 1 => sI_uns | 2 => sI_sig | 3 => sI_uhas | 4 => sI_ihas | _ => fun _ _ => 0, fun k => match k with | 0 => sB_may | 1 => sB_uns | 2 => sB_sig | 3 => sB_uhas | 4 => sB_ihas | _ => fun _ _ => false⟩
set_option maxRecDepth 100000 in
theorem sR_has : funK ⟨tys_XbA, [sM_may 0, sM_uns 1, sM_sig 2, sM_uhas 3, sM_ihas 4]⟩ 200 Try.f12 [.agg [.int .u64 (.var 0), .int .u64 (.var 1), .int .i64 (.var 2), .int .i64 (.var 3)], .one (.int .u64 (.var 4))] ⟨[], [], [some .u64, some .u64, some .i64, some .i64, some .u64]⟩ = sT_has := by kernel_rfl
set_option maxRecDepth 100000 in
set_option maxHeartbeats 8000000 in
theorem sX_has (a : Rg) (ha : Rg.ok a) (v : Int) (hv : inK .u64 v = true) : (∀ w, Calls Try.prog 12 #[.agg #[.int .u64 a.ul, .int .u64 a.uh, .int .i64 a.sl, .int .i64 a.sh], .int .u64 v] w fun e w' => e = .returned (.bool (bhas a v)) ∧ Ext w w') ∧ valIn (.bool (bhas a v)) = true := by
  refine fun_calls (cx := ⟨tys_XbA, [sM_may 0, sM_uns 1, sM_sig 2, sM_uhas 3, sM_ihas 4]⟩) (sp := sP_has) (t := sT_has) (by kernel_rfl) tysok_XbA (List.forall_mem_cons.2 ⟨sK_may rfl rfl, List.forall_mem_cons.2 ⟨sK_uns rfl rfl, List.forall_mem_cons.2 ⟨sK_sig rfl rfl, List.forall_mem_cons.2 ⟨sK_uhas rfl rfl, List.forall_mem_cons.2 ⟨sK_ihas rfl rfl, fun _ h => (by cases h)⟩⟩⟩⟩⟩) (keys_of (by kernel_rfl)) Try.func12 ⟨fun n => ([a.ul, a.uh, a.sl, a.sh, v] : List Int).getD n 0, fun n => ([false, false, false, false, false] : List Bool).getD n false⟩ sR_has (by kernel_rfl) ?_ rfl (by intro p hp; cases hp) ?_ ?_
  · intro n k hk
    have hlt : n < 5 := by
      rcases Nat.lt_or_ge n 5 with h | h
      · exact h
      · rw [List.getElem?_eq_none h] at hk; cases hk
    rcases (show n = 0 ∨ n = 1 ∨ n = 2 ∨ n = 3 ∨ n = 4 by omega) with rfl | rfl | rfl | rfl | rfl
    · cases hk; exact ha.1
    · cases hk; exact ha.2.1
    · cases hk; exact ha.2.2.1
    · cases hk; exact ha.2.2.2
    · cases hk; exact hv
  · intro ρ hag
    have g0 : ρ.i 0 = a.ul := (hag 0 (by decide)).1.symm
    have g1 : ρ.i 1 = a.uh := (hag 1 (by decide)).1.symm
    have g2 : ρ.i 2 = a.sl := (hag 2 (by decide)).1.symm
    have g3 : ρ.i 3 = a.sh := (hag 3 (by decide)).1.symm
    have g4 : ρ.i 4 = v := (hag 4 (by decide)).1.symm
    show some ([.agg #[.int .u64 (ρ.i 0), .int .u64 (ρ.i 1), .int .i64 (ρ.i 2), .int .i64 (ρ.i 3)], .int .u64 (ρ.i 4)] : List Value) = _
    rw [g0, g1, g2, g3, g4]
  · intro ρ hag
    have g0 : ρ.i 0 = a.ul := (hag 0 (by decide)).1.symm
    have g1 : ρ.i 1 = a.uh := (hag 1 (by decide)).1.symm
    have g2 : ρ.i 2 = a.sl := (hag 2 (by decide)).1.symm
    have g3 : ρ.i 3 = a.sh := (hag 3 (by decide)).1.symm
    have g4 : ρ.i 4 = v := (hag 4 (by decide)).1.symm
    simp only [sT_has, Tr.asks, eqs, E.I, E.B, E.L, V.den, C.den, denL, den0, den0L, Option.map_some, Nat.add_zero, Nat.reduceAdd, and_true, Rg.eta, g0, g1, g2, g3, g4]
    simp only [sP_has, b01, Pi.eta, Pu.eta, Rg.eta, sI_may, sB_may, sI_uns, sB_uns, sI_sig, sB_sig, sI_uhas, sB_uhas, sI_ihas, sB_ihas]
    intro e5
    (try simp only [e5, Pi.eta, Pu.eta, Rg.eta])
    (try clear e5)
    refine ⟨fun c0 => ?_, fun c0 => ?_⟩
    · skip
      rintro ⟨e6, e7⟩
      (try simp only [e6, e7, Pi.eta, Pu.eta, Rg.eta])
      (try clear e6 e7)
      intro e8
      (try simp only [e8, Pi.eta, Pu.eta, Rg.eta])
      (try clear e8)
      refine ⟨fun c1 => ?_, fun c1 => ?_⟩
      · skip
        rintro ⟨e9, e10⟩
        (try simp only [e9, e10, Pi.eta, Pu.eta, Rg.eta])
        (try clear e9 e10)
        intro e11
        (try simp only [e11, Pi.eta, Pu.eta, Rg.eta])
        (try clear e11)
        all_goals
          refine congrArg some ?_
          (unfold bhas; simp_all [s64_wrap]; try (intros; omega))
      · skip
        all_goals
          refine congrArg some ?_
          (unfold bhas; simp_all [s64_wrap]; try (intros; omega))
    · skip
      all_goals
        refine congrArg some ?_
        (unfold bhas; simp_all [s64_wrap]; try (intros; omega))
def sM_has (key : Nat) : Sm := ⟨12, key, [(true, [.int .u64, .int .u64, .int .i64, .int .i64]), (false, [.int .u64])], [(false, [.bool])], false⟩
def sI_has : Nat → List Int → Int
  | _, _ => 0
def sB_has : Nat → List Int → Bool
  | 0, [x0, x1, x2, x3, x4] => (fun (a : Rg) (v : Int) => bhas a v) ⟨x0, x1, x2, x3⟩ x4
  | _, _ => false
theorem sK_has {sp : Spec} {key : Nat} (hI : sp.I key = sI_has) (hB : sp.B key = sB_has) : SmOk Try.prog sp (sM_has key) := by
  refine SmOk.of (.inl ⟨run_enter Try.func12 (by kernel_rfl) (by kernel_rfl), fun xs vals h => ?_⟩) (.inr (.inr ⟨_, rfl⟩))
  obtain ⟨_, _, _, p1, h1, rfl⟩ := shA h
  obtain ⟨_, _, _, d1_0, p1_0, rfl⟩ := cksC p1
  obtain ⟨x0, rfl, rfl, gx0⟩ := ckI d1_0
  obtain ⟨_, _, _, d1_1, p1_1, rfl⟩ := cksC p1_0
  obtain ⟨x1, rfl, rfl, gx1⟩ := ckI d1_1
  obtain ⟨_, _, _, d1_2, p1_2, rfl⟩ := cksC p1_1
  obtain ⟨x2, rfl, rfl, gx2⟩ := ckI d1_2
  obtain ⟨_, _, _, d1_3, p1_3, rfl⟩ := cksC p1_2
  obtain ⟨x3, rfl, rfl, gx3⟩ := ckI d1_3
  obtain ⟨rfl, rfl⟩ := cksN p1_3
  obtain ⟨_, _, _, d2, h2, rfl⟩ := shO h1
  obtain ⟨x4, rfl, rfl, gx4⟩ := ckI d2
  obtain ⟨rfl, rfl⟩ := shN h2
  refine ⟨_, sX_has ⟨x0, x1, x2, x3⟩ ⟨gx0, gx1, gx2, gx3⟩ x4 gx4, fun ρ v0 he => ?_⟩
  have he' : ρ.b (v0 + 0) = sp.B key 0 [x0, x1, x2, x3, x4] ∧ True := he
  simp only [hI, hB] at he'
  obtain ⟨e0, -⟩ := he'
  show some (.bool (ρ.b (v0 + 0)) : Value) = _
  rw [e0]
  rfl
def sT_single : Tr :=
(.br (.eq (.var 0) (.var 1))
 (.call 0 [.bool] (.cons (.var 0) (.cons (.var 1) (.cons (.var 2) (.cons (.var 3) (.cons (.var 0) .nil))))) 4
  (.br (.bvar 4)
  (.leaf (.tup [(false, [.int .u64 (.var 0)]), (false, [.bool (.tt true)])]))
  (.leaf (.tup [(false, [.int .u64 (.lit 0)]), (false, [.bool (.tt false)])]))))
 (.leaf (.tup [(false, [.int .u64 (.lit 0)]), (false, [.bool (.tt false)])])))
def sP_single : Spec := ⟨fun k => match k with | 0 => sI_has | _ => fun _ _ => 0, fun k => match k with | 0 => sB_has | _ => fun _ _ => false⟩
set_option maxRecDepth 100000 in
theorem sR_single : funK ⟨tys_XbA, [sM_has 0]⟩ 200 Try.f15 [.agg [.int .u64 (.var 0), .int .u64 (.var 1), .int .i64 (.var 2), .int .i64 (.var 3)]] ⟨[], [], [some .u64, some .u64, some .i64, some .i64]⟩ = sT_single := by kernel_rfl
set_option maxRecDepth 100000 in
set_option maxHeartbeats 8000000 in
theorem sX_single (a : Rg) (ha : Rg.ok a) : (∀ w, Calls Try.prog 15 #[.agg #[.int .u64 a.ul, .int .u64 a.uh, .int .i64 a.sl, .int .i64 a.sh]] w fun e w' => e = .returned (.tuple #[.int .u64 (bsingle a), .bool (bones a)]) ∧ Ext w w') ∧ valIn (.tuple #[.int .u64 (bsingle a), .bool (bones a)]) = true := by
  refine fun_calls (cx := ⟨tys_XbA, [sM_has 0]⟩) (sp := sP_single) (t := sT_single) (by kernel_rfl) tysok_XbA (List.forall_mem_cons.2 ⟨sK_has rfl rfl, fun _ h => (by cases h)⟩) (keys_of (by kernel_rfl)) Try.func15 ⟨fun n => ([a.ul, a.uh, a.sl, a.sh] : List Int).getD n 0, fun n => ([false, false, false, false] : List Bool).getD n false⟩ sR_single (by kernel_rfl) ?_ rfl (by intro p hp; cases hp) ?_ ?_
  · intro n k hk
    have hlt : n < 4 := by
      rcases Nat.lt_or_ge n 4 with h | h
      · exact h
      · rw [List.getElem?_eq_none h] at hk; cases hk
    rcases (show n = 0 ∨ n = 1 ∨ n = 2 ∨ n = 3 by omega) with rfl | rfl | rfl | rfl
    · cases hk; exact ha.1
    · cases hk; exact ha.2.1
    · cases hk; exact ha.2.2.1
    · cases hk; exact ha.2.2.2
  · intro ρ hag
    have g0 : ρ.i 0 = a.ul := (hag 0 (by decide)).1.symm
    have g1 : ρ.i 1 = a.uh := (hag 1 (by decide)).1.symm
    have g2 : ρ.i 2 = a.sl := (hag 2 (by decide)).1.symm
    have g3 : ρ.i 3 = a.sh := (hag 3 (by decide)).1.symm
    show some ([.agg #[.int .u64 (ρ.i 0), .int .u64 (ρ.i 1), .int .i64 (ρ.i 2), .int .i64 (ρ.i 3)]] : List Value) = _
    rw [g0, g1, g2, g3]
  · intro ρ hag
    have g0 : ρ.i 0 = a.ul := (hag 0 (by decide)).1.symm
    have g1 : ρ.i 1 = a.uh := (hag 1 (by decide)).1.symm
    have g2 : ρ.i 2 = a.sl := (hag 2 (by decide)).1.symm
    have g3 : ρ.i 3 = a.sh := (hag 3 (by decide)).1.symm
    simp only [sT_single, Tr.asks, eqs, E.I, E.B, E.L, V.den, C.den, denL, den0, den0L, Option.map_some, Nat.add_zero, Nat.reduceAdd, and_true, Rg.eta, g0, g1, g2, g3]
    simp only [sP_single, b01, Pi.eta, Pu.eta, Rg.eta, sI_has, sB_has]
    refine ⟨fun c0 => ?_, fun c0 => ?_⟩
    · skip
      intro e4
      (try simp only [e4, Pi.eta, Pu.eta, Rg.eta])
      (try clear e4)
      refine ⟨fun c1 => ?_, fun c1 => ?_⟩
      · skip
        all_goals
          refine congrArg some ?_
          (unfold bsingle bones; simp_all)
      · skip
        all_goals
          refine congrArg some ?_
          (unfold bsingle bones; simp_all)
    · skip
      all_goals
        refine congrArg some ?_
        (unfold bsingle bones; simp_all)
def sM_single (key : Nat) : Sm := ⟨15, key, [(true, [.int .u64, .int .u64, .int .i64, .int .i64])], [(false, [.int .u64]), (false, [.bool])], true⟩
def sI_single : Nat → List Int → Int
  | 0, [x0, x1, x2, x3] => (fun (a : Rg) => bsingle a) ⟨x0, x1, x2, x3⟩
  | _, _ => 0
def sB_single : Nat → List Int → Bool
  | 1, [x0, x1, x2, x3] => (fun (a : Rg) => bones a) ⟨x0, x1, x2, x3⟩
  | _, _ => false
theorem sK_single {sp : Spec} {key : Nat} (hI : sp.I key = sI_single) (hB : sp.B key = sB_single) : SmOk Try.prog sp (sM_single key) := by
  refine SmOk.of (.inl ⟨run_enter Try.func15 (by kernel_rfl) (by kernel_rfl), fun xs vals h => ?_⟩) (.inl rfl)
  obtain ⟨_, _, _, p1, h1, rfl⟩ := shA h
  obtain ⟨_, _, _, d1_0, p1_0, rfl⟩ := cksC p1
  obtain ⟨x0, rfl, rfl, gx0⟩ := ckI d1_0
  obtain ⟨_, _, _, d1_1, p1_1, rfl⟩ := cksC p1_0
  obtain ⟨x1, rfl, rfl, gx1⟩ := ckI d1_1
  obtain ⟨_, _, _, d1_2, p1_2, rfl⟩ := cksC p1_1
  obtain ⟨x2, rfl, rfl, gx2⟩ := ckI d1_2
  obtain ⟨_, _, _, d1_3, p1_3, rfl⟩ := cksC p1_2
  obtain ⟨x3, rfl, rfl, gx3⟩ := ckI d1_3
  obtain ⟨rfl, rfl⟩ := cksN p1_3
  obtain ⟨rfl, rfl⟩ := shN h1
  refine ⟨_, sX_single ⟨x0, x1, x2, x3⟩ ⟨gx0, gx1, gx2, gx3⟩, fun ρ v0 he => ?_⟩
  have he' : ρ.i (v0 + 0) = sp.I key 0 [x0, x1, x2, x3] ∧ ρ.b (v0 + 1) = sp.B key 1 [x0, x1, x2, x3] ∧ True := he
  simp only [hI, hB] at he'
  obtain ⟨e0, e1, -⟩ := he'
  show some (.tuple #[.int .u64 (ρ.i (v0 + 0)), .bool (ρ.b (v0 + 1))] : Value) = _
  rw [e0, e1]
  rfl
def sT_join : Tr :=
(.call 0 [.bool] (.cons (.var 0) (.cons (.var 1) (.cons (.var 2) (.cons (.var 3) .nil)))) 8
 (.br (.bvar 8)
 (.call 0 [.bool] (.cons (.var 4) (.cons (.var 5) (.cons (.var 6) (.cons (.var 7) .nil)))) 9
  (.br (.bvar 9)
  (.call 2 [.int .u64, .int .u64] (.cons (.var 0) (.cons (.var 1) (.cons (.var 2) (.cons (.var 3) .nil)))) 10
   (.call 2 [.int .u64, .int .u64] (.cons (.var 4) (.cons (.var 5) (.cons (.var 6) (.cons (.var 7) .nil)))) 12
   (.call 4 [.int .u64, .int .u64] (.cons (.var 10) (.cons (.var 11) (.cons (.var 12) (.cons (.var 13) .nil)))) 14
   (.call 3 [.int .i64, .int .i64] (.cons (.var 0) (.cons (.var 1) (.cons (.var 2) (.cons (.var 3) .nil)))) 16
   (.call 3 [.int .i64, .int .i64] (.cons (.var 4) (.cons (.var 5) (.cons (.var 6) (.cons (.var 7) .nil)))) 18
   (.call 5 [.int .i64, .int .i64] (.cons (.var 16) (.cons (.var 17) (.cons (.var 18) (.cons (.var 19) .nil)))) 20
   (.call 6 [.int .u64, .int .u64, .int .i64, .int .i64] (.cons (.var 14) (.cons (.var 15) (.cons (.var 20) (.cons (.var 21) .nil)))) 22
   (.leaf (.agg [.int .u64 (.var 22), .int .u64 (.var 23), .int .i64 (.var 24), .int .i64 (.var 25)])))))))))
  (.call 1 [.int .u64, .int .u64, .int .i64, .int .i64] .nil 10
   (.leaf (.agg [.int .u64 (.var 10), .int .u64 (.var 11), .int .i64 (.var 12), .int .i64 (.var 13)])))))
 (.call 1 [.int .u64, .int .u64, .int .i64, .int .i64] .nil 9
  (.leaf (.agg [.int .u64 (.var 9), .int .u64 (.var 10), .int .i64 (.var 11), .int .i64 (.var 12)])))))
def sP_join : Spec := ⟨fun k => match k with | 0 => sI_may | 1 => sI_all | 2 => sI_uns | 3 => sI_sig | 4 => sI_ujoin | 5 => sI_ijoin | 6 => sI_of | _ => fun _ _ => 0, fun k => match k with | 0 => sB_may | 1 => sB_all | 2 => sB_uns | 3 => sB_sig | 4 => sB_ujoin | 5 => sB_ijoin | 6 => sB_of | _ => fun _ _ => false⟩
set_option maxRecDepth 100000 in
theorem sR_join : funK ⟨tys_XbA, [sM_may 0, sM_all 1, sM_uns 2, sM_sig 3, sM_ujoin 4, sM_ijoin 5, sM_of 6]⟩ 200 Try.f28 [.agg [.int .u64 (.var 0), .int .u64 (.var 1), .int .i64 (.var 2), .int .i64 (.var 3)], .agg [.int .u64 (.var 4), .int .u64 (.var 5), .int .i64 (.var 6), .int .i64 (.var 7)]] ⟨[], [], [some .u64, some .u64, some .i64, some .i64, some .u64, some .u64, some .i64, some .i64]⟩ = sT_join := by kernel_rfl
set_option maxRecDepth 100000 in
set_option maxHeartbeats 8000000 in
theorem sX_join (a : Rg) (ha : Rg.ok a) (b : Rg) (hb : Rg.ok b) : (∀ w, Calls Try.prog 28 #[.agg #[.int .u64 a.ul, .int .u64 a.uh, .int .i64 a.sl, .int .i64 a.sh], .agg #[.int .u64 b.ul, .int .u64 b.uh, .int .i64 b.sl, .int .i64 b.sh]] w fun e w' => e = .returned (.agg #[.int .u64 (bjoin a b).ul, .int .u64 (bjoin a b).uh, .int .i64 (bjoin a b).sl, .int .i64 (bjoin a b).sh]) ∧ Ext w w') ∧ valIn (.agg #[.int .u64 (bjoin a b).ul, .int .u64 (bjoin a b).uh, .int .i64 (bjoin a b).sl, .int .i64 (bjoin a b).sh]) = true := by
  refine fun_calls (cx := ⟨tys_XbA, [sM_may 0, sM_all 1, sM_uns 2, sM_sig 3, sM_ujoin 4, sM_ijoin 5, sM_of 6]⟩) (sp := sP_join) (t := sT_join) (by kernel_rfl) tysok_XbA (List.forall_mem_cons.2 ⟨sK_may rfl rfl, List.forall_mem_cons.2 ⟨sK_all rfl rfl, List.forall_mem_cons.2 ⟨sK_uns rfl rfl, List.forall_mem_cons.2 ⟨sK_sig rfl rfl, List.forall_mem_cons.2 ⟨sK_ujoin rfl rfl, List.forall_mem_cons.2 ⟨sK_ijoin rfl rfl, List.forall_mem_cons.2 ⟨sK_of rfl rfl, fun _ h => (by cases h)⟩⟩⟩⟩⟩⟩⟩) (keys_of (by kernel_rfl)) Try.func28 ⟨fun n => ([a.ul, a.uh, a.sl, a.sh, b.ul, b.uh, b.sl, b.sh] : List Int).getD n 0, fun n => ([false, false, false, false, false, false, false, false] : List Bool).getD n false⟩ sR_join (by kernel_rfl) ?_ rfl (by intro p hp; cases hp) ?_ ?_
  · intro n k hk
    have hlt : n < 8 := by
      rcases Nat.lt_or_ge n 8 with h | h
      · exact h
      · rw [List.getElem?_eq_none h] at hk; cases hk
    rcases (show n = 0 ∨ n = 1 ∨ n = 2 ∨ n = 3 ∨ n = 4 ∨ n = 5 ∨ n = 6 ∨ n = 7 by omega) with rfl | rfl | rfl | rfl | rfl | rfl | rfl | rfl
    · cases hk; exact ha.1
    · cases hk; exact ha.2.1
    · cases hk; exact ha.2.2.1
    · cases hk; exact ha.2.2.2
    · cases hk; exact hb.1
    · cases hk; exact hb.2.1
    · cases hk; exact hb.2.2.1
    · cases hk; exact hb.2.2.2
  · intro ρ hag
    have g0 : ρ.i 0 = a.ul := (hag 0 (by decide)).1.symm
    have g1 : ρ.i 1 = a.uh := (hag 1 (by decide)).1.symm
    have g2 : ρ.i 2 = a.sl := (hag 2 (by decide)).1.symm
    have g3 : ρ.i 3 = a.sh := (hag 3 (by decide)).1.symm
    have g4 : ρ.i 4 = b.ul := (hag 4 (by decide)).1.symm
    have g5 : ρ.i 5 = b.uh := (hag 5 (by decide)).1.symm
    have g6 : ρ.i 6 = b.sl := (hag 6 (by decide)).1.symm
    have g7 : ρ.i 7 = b.sh := (hag 7 (by decide)).1.symm
    show some ([.agg #[.int .u64 (ρ.i 0), .int .u64 (ρ.i 1), .int .i64 (ρ.i 2), .int .i64 (ρ.i 3)], .agg #[.int .u64 (ρ.i 4), .int .u64 (ρ.i 5), .int .i64 (ρ.i 6), .int .i64 (ρ.i 7)]] : List Value) = _
    rw [g0, g1, g2, g3, g4, g5, g6, g7]
  · intro ρ hag
    have g0 : ρ.i 0 = a.ul := (hag 0 (by decide)).1.symm
    have g1 : ρ.i 1 = a.uh := (hag 1 (by decide)).1.symm
    have g2 : ρ.i 2 = a.sl := (hag 2 (by decide)).1.symm
    have g3 : ρ.i 3 = a.sh := (hag 3 (by decide)).1.symm
    have g4 : ρ.i 4 = b.ul := (hag 4 (by decide)).1.symm
    have g5 : ρ.i 5 = b.uh := (hag 5 (by decide)).1.symm
    have g6 : ρ.i 6 = b.sl := (hag 6 (by decide)).1.symm
    have g7 : ρ.i 7 = b.sh := (hag 7 (by decide)).1.symm
    simp only [sT_join, Tr.asks, eqs, E.I, E.B, E.L, V.den, C.den, denL, den0, den0L, Option.map_some, Nat.add_zero, Nat.reduceAdd, and_true, Rg.eta, g0, g1, g2, g3, g4, g5, g6, g7]
    simp only [sP_join, b01, Pi.eta, Pu.eta, Rg.eta, sI_may, sB_may, sI_all, sB_all, sI_uns, sB_uns, sI_sig, sB_sig, sI_ujoin, sB_ujoin, sI_ijoin, sB_ijoin, sI_of, sB_of]
    intro e8
    (try simp only [e8, Pi.eta, Pu.eta, Rg.eta])
    (try clear e8)
    refine ⟨fun c0 => ?_, fun c0 => ?_⟩
    · skip
      intro e9
      (try simp only [e9, Pi.eta, Pu.eta, Rg.eta])
      (try clear e9)
      refine ⟨fun c1 => ?_, fun c1 => ?_⟩
      · skip
        rintro ⟨e10, e11⟩
        (try simp only [e10, e11, Pi.eta, Pu.eta, Rg.eta])
        (try clear e10 e11)
        rintro ⟨e12, e13⟩
        (try simp only [e12, e13, Pi.eta, Pu.eta, Rg.eta])
        (try clear e12 e13)
        rintro ⟨e14, e15⟩
        (try simp only [e14, e15, Pi.eta, Pu.eta, Rg.eta])
        (try clear e14 e15)
        rintro ⟨e16, e17⟩
        (try simp only [e16, e17, Pi.eta, Pu.eta, Rg.eta])
        (try clear e16 e17)
        rintro ⟨e18, e19⟩
        (try simp only [e18, e19, Pi.eta, Pu.eta, Rg.eta])
        (try clear e18 e19)
        rintro ⟨e20, e21⟩
        (try simp only [e20, e21, Pi.eta, Pu.eta, Rg.eta])
        (try clear e20 e21)
        rintro ⟨e22, e23, e24, e25⟩
        (try simp only [e22, e23, e24, e25, Pi.eta, Pu.eta, Rg.eta])
        (try clear e22 e23 e24 e25)
        all_goals
          refine congrArg some ?_
          (unfold bjoin; simp_all [bjoin0])
      · skip
        rintro ⟨e10, e11, e12, e13⟩
        (try simp only [e10, e11, e12, e13, Pi.eta, Pu.eta, Rg.eta])
        (try clear e10 e11 e12 e13)
        all_goals
          refine congrArg some ?_
          (unfold bjoin; simp_all [bjoin0])
    · skip
      rintro ⟨e9, e10, e11, e12⟩
      (try simp only [e9, e10, e11, e12, Pi.eta, Pu.eta, Rg.eta])
      (try clear e9 e10 e11 e12)
      all_goals
        refine congrArg some ?_
        (unfold bjoin; simp_all [bjoin0])
def sM_join (key : Nat) : Sm := ⟨28, key, [(true, [.int .u64, .int .u64, .int .i64, .int .i64]), (true, [.int .u64, .int .u64, .int .i64, .int .i64])], [(true, [.int .u64, .int .u64, .int .i64, .int .i64])], false⟩
def sI_join : Nat → List Int → Int
  | 0, [x0, x1, x2, x3, x4, x5, x6, x7] => (fun (a : Rg) (b : Rg) => (bjoin a b).ul) ⟨x0, x1, x2, x3⟩ ⟨x4, x5, x6, x7⟩
  | 1, [x0, x1, x2, x3, x4, x5, x6, x7] => (fun (a : Rg) (b : Rg) => (bjoin a b).uh) ⟨x0, x1, x2, x3⟩ ⟨x4, x5, x6, x7⟩
  | 2, [x0, x1, x2, x3, x4, x5, x6, x7] => (fun (a : Rg) (b : Rg) => (bjoin a b).sl) ⟨x0, x1, x2, x3⟩ ⟨x4, x5, x6, x7⟩
  | 3, [x0, x1, x2, x3, x4, x5, x6, x7] => (fun (a : Rg) (b : Rg) => (bjoin a b).sh) ⟨x0, x1, x2, x3⟩ ⟨x4, x5, x6, x7⟩
  | _, _ => 0
def sB_join : Nat → List Int → Bool
  | _, _ => false
theorem sK_join {sp : Spec} {key : Nat} (hI : sp.I key = sI_join) (hB : sp.B key = sB_join) : SmOk Try.prog sp (sM_join key) := by
  refine SmOk.of (.inl ⟨run_enter Try.func28 (by kernel_rfl) (by kernel_rfl), fun xs vals h => ?_⟩) (.inr (.inl ⟨_, rfl⟩))
  obtain ⟨_, _, _, p1, h1, rfl⟩ := shA h
  obtain ⟨_, _, _, d1_0, p1_0, rfl⟩ := cksC p1
  obtain ⟨x0, rfl, rfl, gx0⟩ := ckI d1_0
  obtain ⟨_, _, _, d1_1, p1_1, rfl⟩ := cksC p1_0
  obtain ⟨x1, rfl, rfl, gx1⟩ := ckI d1_1
  obtain ⟨_, _, _, d1_2, p1_2, rfl⟩ := cksC p1_1
  obtain ⟨x2, rfl, rfl, gx2⟩ := ckI d1_2
  obtain ⟨_, _, _, d1_3, p1_3, rfl⟩ := cksC p1_2
  obtain ⟨x3, rfl, rfl, gx3⟩ := ckI d1_3
  obtain ⟨rfl, rfl⟩ := cksN p1_3
  obtain ⟨_, _, _, p2, h2, rfl⟩ := shA h1
  obtain ⟨_, _, _, d2_0, p2_0, rfl⟩ := cksC p2
  obtain ⟨x4, rfl, rfl, gx4⟩ := ckI d2_0
  obtain ⟨_, _, _, d2_1, p2_1, rfl⟩ := cksC p2_0
  obtain ⟨x5, rfl, rfl, gx5⟩ := ckI d2_1
  obtain ⟨_, _, _, d2_2, p2_2, rfl⟩ := cksC p2_1
  obtain ⟨x6, rfl, rfl, gx6⟩ := ckI d2_2
  obtain ⟨_, _, _, d2_3, p2_3, rfl⟩ := cksC p2_2
  obtain ⟨x7, rfl, rfl, gx7⟩ := ckI d2_3
  obtain ⟨rfl, rfl⟩ := cksN p2_3
  obtain ⟨rfl, rfl⟩ := shN h2
  refine ⟨_, sX_join ⟨x0, x1, x2, x3⟩ ⟨gx0, gx1, gx2, gx3⟩ ⟨x4, x5, x6, x7⟩ ⟨gx4, gx5, gx6, gx7⟩, fun ρ v0 he => ?_⟩
  have he' : ρ.i (v0 + 0) = sp.I key 0 [x0, x1, x2, x3, x4, x5, x6, x7] ∧ ρ.i (v0 + 1) = sp.I key 1 [x0, x1, x2, x3, x4, x5, x6, x7] ∧ ρ.i (v0 + 2) = sp.I key 2 [x0, x1, x2, x3, x4, x5, x6, x7] ∧ ρ.i (v0 + 3) = sp.I key 3 [x0, x1, x2, x3, x4, x5, x6, x7] ∧ True := he
  simp only [hI, hB] at he'
  obtain ⟨e0, e1, e2, e3, -⟩ := he'
  show some (.agg #[.int .u64 (ρ.i (v0 + 0)), .int .u64 (ρ.i (v0 + 1)), .int .i64 (ρ.i (v0 + 2)), .int .i64 (ρ.i (v0 + 3))] : Value) = _
  rw [e0, e1, e2, e3]
  rfl
end Go.Proofs.Ytcngfmhhaleoaaa

/- Contracts of Narrow and others of package bounds, by the symbolic run. -/
set_option linter.unusedVariables false
set_option linter.unusedSimpArgs false
namespace Go.Proofs.Ytcngfmhhaleoaaa
open Go.RowKit Go.ChangeShapes Go.WideShapes

theorem bnar_if (r : Rg) : (if bnok r = true then bnar r else ball) = bnar r := by
  unfold bnar
  split <;> simp_all
theorem Rg.ext_iff {a b : Rg} : a = b ↔ a.ul = b.ul ∧ a.uh = b.uh ∧ a.sl = b.sl ∧ a.sh = b.sh := by
  cases a; cases b; simp
theorem inK_u64 {x : Int} (h : inK .u64 x = true) : 0 ≤ x ∧ x ≤ 18446744073709551615 := by
  rw [inK_iff] at h; simpa [IntKind.min, IntKind.max, IntKind.signed, IntKind.bits] using h
theorem inK_i64 {x : Int} (h : inK .i64 x = true) : -9223372036854775808 ≤ x ∧ x ≤ 9223372036854775807 := by
  rw [inK_iff] at h; simpa [IntKind.min, IntKind.max, IntKind.signed, IntKind.bits] using h
theorem Rg.wf_of {a : Rg} (h : a.ok) : a.wf := ⟨inK_u64 h.1, inK_u64 h.2.1, inK_i64 h.2.2.1, inK_i64 h.2.2.2⟩
theorem shr63 {x : Int} (h : 0 ≤ x ∧ x ≤ 18446744073709551615) : opI .shr .u64 x 63 = if hib x = true then 1 else 0 := by
  show x.fdiv (2 ^ 63) = _
  rw [Int.fdiv_eq_ediv_of_nonneg _ (by omega)]
  unfold hib
  split
  · rename_i hh; have := of_decide_eq_true hh; omega
  · rename_i hh; have : ¬ 9223372036854775808 ≤ x := fun e => hh (decide_eq_true e); omega
theorem hib_c {r : Rg} (w : r.wf) : (opI .shr .u64 r.ul 63 == opI .shr .u64 r.uh 63) = decide (hib r.ul = hib r.uh) := by
  rw [shr63 w.1, shr63 w.2.1]
  cases hib r.ul <;> cases hib r.uh <;> rfl
theorem sgn_t {r : Rg} (w : r.wf) (h : (opI .shr .u64 r.ul 63 == opI .shr .u64 r.uh 63) = true) : bsgn r = ⟨r.ul, r.uh, max r.sl (IntKind.i64.wrap r.ul), min r.sh (IntKind.i64.wrap r.uh)⟩ := by
  rw [hib_c w, decide_eq_true_eq] at h
  unfold bsgn
  rw [if_pos h, s64_wrap, s64_wrap]
theorem sgn_f {r : Rg} (w : r.wf) (h : (opI .shr .u64 r.ul 63 == opI .shr .u64 r.uh 63) = false) : bsgn r = ⟨r.ul, r.uh, r.sl, r.sh⟩ := by
  rw [hib_c w, decide_eq_false_iff_not] at h
  unfold bsgn
  rw [if_neg h]
theorem uns_t {r : Rg} (h : (decide (r.sl < 0) == decide (r.sh < 0)) = true) : buns r = ⟨max r.ul (IntKind.u64.wrap r.sl), min r.uh (IntKind.u64.wrap r.sh), r.sl, r.sh⟩ := by
  unfold buns
  rw [if_pos (eq_of_beq h)]
theorem uns_f {r : Rg} (h : (decide (r.sl < 0) == decide (r.sh < 0)) = false) : buns r = ⟨r.ul, r.uh, r.sl, r.sh⟩ := by
  unfold buns
  rw [if_neg (fun e => by rw [e] at h; simp at h)]
def z_Rg : List C := [.int .u64 (.lit 0), .int .u64 (.lit 0), .int .i64 (.lit 0), .int .i64 (.lit 0)]
theorem grd_Rg : Try.prog.eqGuardType Try.prog.depth 24 = false := by kernel_rfl
theorem cells24_Rg : Try.prog.cellsOf 24 = 4 := by kernel_rfl
theorem cells22_Rg : Try.prog.cellsOf 22 = 1 := by kernel_rfl
theorem cells2_Rg : Try.prog.cellsOf 2 = 1 := by kernel_rfl
set_option maxRecDepth 100000 in
theorem kl_Rg (vs : List Value) (hv : kindsV vs z_Rg) : Try.prog.keyLits 6 24 vs = some (litsOf vs) := by
  obtain ⟨x0, _, rfl, g0, hv⟩ := kindsV_int hv
  obtain ⟨x1, _, rfl, g1, hv⟩ := kindsV_int hv
  obtain ⟨x2, _, rfl, g2, hv⟩ := kindsV_int hv
  obtain ⟨x3, _, rfl, g3, hv⟩ := kindsV_int hv
  obtain rfl := kindsV_nil hv
  simp [Program.keyLits, Try.underlying24, Try.underlying22, Try.underlying2, cells24_Rg, cells22_Rg, cells2_Rg, inK_wf, litsOf, g0, g1, g2, g3]
theorem fm_Rg (vs : List Value) (hv : kindsV vs z_Rg) : (Value.agg vs.toArray).formed Try.prog 24 = true := by
  obtain ⟨x0, _, rfl, g0, hv⟩ := kindsV_int hv
  obtain ⟨x1, _, rfl, g1, hv⟩ := kindsV_int hv
  obtain ⟨x2, _, rfl, g2, hv⟩ := kindsV_int hv
  obtain ⟨x3, _, rfl, g3, hv⟩ := kindsV_int hv
  obtain rfl := kindsV_nil hv
  kernel_rfl
theorem eq_Rg (vs us : List Value) (hv : kindsV vs z_Rg) (hu : kindsV us z_Rg) (w : World) : (Op.equal 24 (.agg vs.toArray) (.agg us.toArray)).run Try.prog w = .ok (eqVs vs us) w :=
  eq_of_keys (by kernel_rfl) fm_Rg 6 kl_Rg vs us hv hu w
def tys_XbB : List (Nat × TI) := [(2, ⟨false, 1, [.int .i64 (.lit 0)], [], none, some .i64, false, false⟩),
  (3, ⟨false, 1, [.int .i64 (.lit 0)], [], none, some .i64, false, false⟩),
  (4, ⟨false, 1, [.bool (.tt false)], [], none, none, false, true⟩),
  (22, ⟨false, 1, [.int .u64 (.lit 0)], [], none, some .u64, false, false⟩),
  (24, ⟨true, 4, [.int .u64 (.lit 0), .int .u64 (.lit 0), .int .i64 (.lit 0), .int .i64 (.lit 0)], [(0, 22), (1, 22), (2, 2), (3, 2)], none, none, true, false⟩),
  (69, ⟨true, 2, [.int .u64 (.lit 0), .int .u64 (.lit 0)], [(0, 22), (1, 22)], none, none, false, false⟩),
  (72, ⟨true, 2, [.int .i64 (.lit 0), .int .i64 (.lit 0)], [(0, 2), (1, 2)], none, none, false, false⟩)]
set_option maxRecDepth 100000 in
theorem tysck_XbB : (tys_XbB.all fun p => ckTI Try.prog p.1 p.2) = true := by kernel_rfl
theorem tyseq_XbB : (tys_XbB.all fun p => !p.2.eqok || ((Nat.beq p.1 24 && kindsC p.2.zero z_Rg))) = true := by kernel_rfl
theorem tysok_XbB : ∀ t i, (t, i) ∈ tys_XbB → TIok Try.prog t i := by
  intro t i h
  have h1 := List.all_eq_true.1 tyseq_XbB (t, i) h
  have h2 : i.eqok = true → (t = 24 ∧ kindsC i.zero z_Rg = true) := by
    intro he
    simp only [he, Bool.not_true, Bool.false_or, Bool.or_eq_true, Bool.and_eq_true] at h1
    exact ⟨Nat.eq_of_beq_eq_true h1.1, h1.2⟩
  refine TIok_of (all_at (f := ckTI Try.prog) tysck_XbB h) (fun he => ?_) (fun he => ?_)
  · rcases h2 he with ⟨rfl, hs⟩
    · exact fun vs us hv hu => eq_Rg vs us (kindsV_of hs hv) (kindsV_of hs hu)
  · rcases h2 he with ⟨rfl, hs⟩
    · exact grd_Rg
def sT_nar : Tr :=
(.call 0 [.bool] (.cons (.var 0) (.cons (.var 1) (.cons (.var 2) (.cons (.var 3) .nil)))) 4
 (.br (.bvar 4)
 (.call 2 [.int .u64, .int .u64] (.cons (.var 0) (.cons (.var 1) (.cons (.var 2) (.cons (.var 3) .nil)))) 5
  (.call 3 [.int .i64, .int .i64] (.cons (.var 0) (.cons (.var 1) (.cons (.var 2) (.cons (.var 3) .nil)))) 7
  (.br (.eq (.bin .shr .u64 (.var 5) (.lit 63)) (.bin .shr .u64 (.var 6) (.lit 63)))
  (.call 5 [.int .i64, .int .i64] (.cons (.var 7) (.cons (.var 8) (.cons (.conv .i64 (.var 5)) (.cons (.conv .i64 (.var 6)) .nil)))) 9
   (.call 6 [.int .u64, .int .u64, .int .i64, .int .i64] (.cons (.var 5) (.cons (.var 6) (.cons (.var 9) (.cons (.var 10) .nil)))) 11
   (.call 0 [.bool] (.cons (.var 11) (.cons (.var 12) (.cons (.var 13) (.cons (.var 14) .nil)))) 15
   (.br (.bvar 15)
   (.call 2 [.int .u64, .int .u64] (.cons (.var 11) (.cons (.var 12) (.cons (.var 13) (.cons (.var 14) .nil)))) 16
    (.call 3 [.int .i64, .int .i64] (.cons (.var 11) (.cons (.var 12) (.cons (.var 13) (.cons (.var 14) .nil)))) 18
    (.br (.beq (.lt (.var 18) (.lit 0)) (.lt (.var 19) (.lit 0)))
    (.call 4 [.int .u64, .int .u64] (.cons (.var 16) (.cons (.var 17) (.cons (.conv .u64 (.var 18)) (.cons (.conv .u64 (.var 19)) .nil)))) 20
     (.call 6 [.int .u64, .int .u64, .int .i64, .int .i64] (.cons (.var 20) (.cons (.var 21) (.cons (.var 18) (.cons (.var 19) .nil)))) 22
     (.call 0 [.bool] (.cons (.var 22) (.cons (.var 23) (.cons (.var 24) (.cons (.var 25) .nil)))) 26
     (.br (.bvar 26)
     (.call 2 [.int .u64, .int .u64] (.cons (.var 22) (.cons (.var 23) (.cons (.var 24) (.cons (.var 25) .nil)))) 27
      (.call 3 [.int .i64, .int .i64] (.cons (.var 22) (.cons (.var 23) (.cons (.var 24) (.cons (.var 25) .nil)))) 29
      (.br (.eq (.bin .shr .u64 (.var 27) (.lit 63)) (.bin .shr .u64 (.var 28) (.lit 63)))
      (.call 5 [.int .i64, .int .i64] (.cons (.var 29) (.cons (.var 30) (.cons (.conv .i64 (.var 27)) (.cons (.conv .i64 (.var 28)) .nil)))) 31
       (.call 6 [.int .u64, .int .u64, .int .i64, .int .i64] (.cons (.var 27) (.cons (.var 28) (.cons (.var 31) (.cons (.var 32) .nil)))) 33
       (.call 0 [.bool] (.cons (.var 33) (.cons (.var 34) (.cons (.var 35) (.cons (.var 36) .nil)))) 37
       (.br (.bvar 37)
       (.call 2 [.int .u64, .int .u64] (.cons (.var 33) (.cons (.var 34) (.cons (.var 35) (.cons (.var 36) .nil)))) 38
        (.call 3 [.int .i64, .int .i64] (.cons (.var 33) (.cons (.var 34) (.cons (.var 35) (.cons (.var 36) .nil)))) 40
        (.leaf (.tup [(true, [.int .u64 (.var 33), .int .u64 (.var 34), .int .i64 (.var 35), .int .i64 (.var 36)]), (false, [.bool (.tt true)])]))))
       (.call 1 [.int .u64, .int .u64, .int .i64, .int .i64] .nil 38
        (.leaf (.tup [(true, [.int .u64 (.var 38), .int .u64 (.var 39), .int .i64 (.var 40), .int .i64 (.var 41)]), (false, [.bool (.tt false)])])))))))
      (.call 6 [.int .u64, .int .u64, .int .i64, .int .i64] (.cons (.var 27) (.cons (.var 28) (.cons (.var 29) (.cons (.var 30) .nil)))) 31
       (.call 0 [.bool] (.cons (.var 31) (.cons (.var 32) (.cons (.var 33) (.cons (.var 34) .nil)))) 35
       (.br (.bvar 35)
       (.call 2 [.int .u64, .int .u64] (.cons (.var 31) (.cons (.var 32) (.cons (.var 33) (.cons (.var 34) .nil)))) 36
        (.call 3 [.int .i64, .int .i64] (.cons (.var 31) (.cons (.var 32) (.cons (.var 33) (.cons (.var 34) .nil)))) 38
        (.leaf (.tup [(true, [.int .u64 (.var 31), .int .u64 (.var 32), .int .i64 (.var 33), .int .i64 (.var 34)]), (false, [.bool (.tt true)])]))))
       (.call 1 [.int .u64, .int .u64, .int .i64, .int .i64] .nil 36
        (.leaf (.tup [(true, [.int .u64 (.var 36), .int .u64 (.var 37), .int .i64 (.var 38), .int .i64 (.var 39)]), (false, [.bool (.tt false)])])))))))))
     (.call 1 [.int .u64, .int .u64, .int .i64, .int .i64] .nil 27
      (.leaf (.tup [(true, [.int .u64 (.var 27), .int .u64 (.var 28), .int .i64 (.var 29), .int .i64 (.var 30)]), (false, [.bool (.tt false)])])))))))
    (.call 6 [.int .u64, .int .u64, .int .i64, .int .i64] (.cons (.var 16) (.cons (.var 17) (.cons (.var 18) (.cons (.var 19) .nil)))) 20
     (.call 0 [.bool] (.cons (.var 20) (.cons (.var 21) (.cons (.var 22) (.cons (.var 23) .nil)))) 24
     (.br (.bvar 24)
     (.call 2 [.int .u64, .int .u64] (.cons (.var 20) (.cons (.var 21) (.cons (.var 22) (.cons (.var 23) .nil)))) 25
      (.call 3 [.int .i64, .int .i64] (.cons (.var 20) (.cons (.var 21) (.cons (.var 22) (.cons (.var 23) .nil)))) 27
      (.br (.eq (.bin .shr .u64 (.var 25) (.lit 63)) (.bin .shr .u64 (.var 26) (.lit 63)))
      (.call 5 [.int .i64, .int .i64] (.cons (.var 27) (.cons (.var 28) (.cons (.conv .i64 (.var 25)) (.cons (.conv .i64 (.var 26)) .nil)))) 29
       (.call 6 [.int .u64, .int .u64, .int .i64, .int .i64] (.cons (.var 25) (.cons (.var 26) (.cons (.var 29) (.cons (.var 30) .nil)))) 31
       (.call 0 [.bool] (.cons (.var 31) (.cons (.var 32) (.cons (.var 33) (.cons (.var 34) .nil)))) 35
       (.br (.bvar 35)
       (.call 2 [.int .u64, .int .u64] (.cons (.var 31) (.cons (.var 32) (.cons (.var 33) (.cons (.var 34) .nil)))) 36
        (.call 3 [.int .i64, .int .i64] (.cons (.var 31) (.cons (.var 32) (.cons (.var 33) (.cons (.var 34) .nil)))) 38
        (.leaf (.tup [(true, [.int .u64 (.var 31), .int .u64 (.var 32), .int .i64 (.var 33), .int .i64 (.var 34)]), (false, [.bool (.tt true)])]))))
       (.call 1 [.int .u64, .int .u64, .int .i64, .int .i64] .nil 36
        (.leaf (.tup [(true, [.int .u64 (.var 36), .int .u64 (.var 37), .int .i64 (.var 38), .int .i64 (.var 39)]), (false, [.bool (.tt false)])])))))))
      (.call 6 [.int .u64, .int .u64, .int .i64, .int .i64] (.cons (.var 25) (.cons (.var 26) (.cons (.var 27) (.cons (.var 28) .nil)))) 29
       (.call 0 [.bool] (.cons (.var 29) (.cons (.var 30) (.cons (.var 31) (.cons (.var 32) .nil)))) 33
       (.br (.bvar 33)
       (.call 2 [.int .u64, .int .u64] (.cons (.var 29) (.cons (.var 30) (.cons (.var 31) (.cons (.var 32) .nil)))) 34
        (.call 3 [.int .i64, .int .i64] (.cons (.var 29) (.cons (.var 30) (.cons (.var 31) (.cons (.var 32) .nil)))) 36
        (.leaf (.tup [(true, [.int .u64 (.var 29), .int .u64 (.var 30), .int .i64 (.var 31), .int .i64 (.var 32)]), (false, [.bool (.tt true)])]))))
       (.call 1 [.int .u64, .int .u64, .int .i64, .int .i64] .nil 34
        (.leaf (.tup [(true, [.int .u64 (.var 34), .int .u64 (.var 35), .int .i64 (.var 36), .int .i64 (.var 37)]), (false, [.bool (.tt false)])])))))))))
     (.call 1 [.int .u64, .int .u64, .int .i64, .int .i64] .nil 25
      (.leaf (.tup [(true, [.int .u64 (.var 25), .int .u64 (.var 26), .int .i64 (.var 27), .int .i64 (.var 28)]), (false, [.bool (.tt false)])])))))))))
   (.call 1 [.int .u64, .int .u64, .int .i64, .int .i64] .nil 16
    (.leaf (.tup [(true, [.int .u64 (.var 16), .int .u64 (.var 17), .int .i64 (.var 18), .int .i64 (.var 19)]), (false, [.bool (.tt false)])])))))))
  (.call 6 [.int .u64, .int .u64, .int .i64, .int .i64] (.cons (.var 5) (.cons (.var 6) (.cons (.var 7) (.cons (.var 8) .nil)))) 9
   (.call 0 [.bool] (.cons (.var 9) (.cons (.var 10) (.cons (.var 11) (.cons (.var 12) .nil)))) 13
   (.br (.bvar 13)
   (.call 2 [.int .u64, .int .u64] (.cons (.var 9) (.cons (.var 10) (.cons (.var 11) (.cons (.var 12) .nil)))) 14
    (.call 3 [.int .i64, .int .i64] (.cons (.var 9) (.cons (.var 10) (.cons (.var 11) (.cons (.var 12) .nil)))) 16
    (.br (.beq (.lt (.var 16) (.lit 0)) (.lt (.var 17) (.lit 0)))
    (.call 4 [.int .u64, .int .u64] (.cons (.var 14) (.cons (.var 15) (.cons (.conv .u64 (.var 16)) (.cons (.conv .u64 (.var 17)) .nil)))) 18
     (.call 6 [.int .u64, .int .u64, .int .i64, .int .i64] (.cons (.var 18) (.cons (.var 19) (.cons (.var 16) (.cons (.var 17) .nil)))) 20
     (.call 0 [.bool] (.cons (.var 20) (.cons (.var 21) (.cons (.var 22) (.cons (.var 23) .nil)))) 24
     (.br (.bvar 24)
     (.call 2 [.int .u64, .int .u64] (.cons (.var 20) (.cons (.var 21) (.cons (.var 22) (.cons (.var 23) .nil)))) 25
      (.call 3 [.int .i64, .int .i64] (.cons (.var 20) (.cons (.var 21) (.cons (.var 22) (.cons (.var 23) .nil)))) 27
      (.br (.eq (.bin .shr .u64 (.var 25) (.lit 63)) (.bin .shr .u64 (.var 26) (.lit 63)))
      (.call 5 [.int .i64, .int .i64] (.cons (.var 27) (.cons (.var 28) (.cons (.conv .i64 (.var 25)) (.cons (.conv .i64 (.var 26)) .nil)))) 29
       (.call 6 [.int .u64, .int .u64, .int .i64, .int .i64] (.cons (.var 25) (.cons (.var 26) (.cons (.var 29) (.cons (.var 30) .nil)))) 31
       (.call 0 [.bool] (.cons (.var 31) (.cons (.var 32) (.cons (.var 33) (.cons (.var 34) .nil)))) 35
       (.br (.bvar 35)
       (.call 2 [.int .u64, .int .u64] (.cons (.var 31) (.cons (.var 32) (.cons (.var 33) (.cons (.var 34) .nil)))) 36
        (.call 3 [.int .i64, .int .i64] (.cons (.var 31) (.cons (.var 32) (.cons (.var 33) (.cons (.var 34) .nil)))) 38
        (.leaf (.tup [(true, [.int .u64 (.var 31), .int .u64 (.var 32), .int .i64 (.var 33), .int .i64 (.var 34)]), (false, [.bool (.tt true)])]))))
       (.call 1 [.int .u64, .int .u64, .int .i64, .int .i64] .nil 36
        (.leaf (.tup [(true, [.int .u64 (.var 36), .int .u64 (.var 37), .int .i64 (.var 38), .int .i64 (.var 39)]), (false, [.bool (.tt false)])])))))))
      (.call 6 [.int .u64, .int .u64, .int .i64, .int .i64] (.cons (.var 25) (.cons (.var 26) (.cons (.var 27) (.cons (.var 28) .nil)))) 29
       (.call 0 [.bool] (.cons (.var 29) (.cons (.var 30) (.cons (.var 31) (.cons (.var 32) .nil)))) 33
       (.br (.bvar 33)
       (.call 2 [.int .u64, .int .u64] (.cons (.var 29) (.cons (.var 30) (.cons (.var 31) (.cons (.var 32) .nil)))) 34
        (.call 3 [.int .i64, .int .i64] (.cons (.var 29) (.cons (.var 30) (.cons (.var 31) (.cons (.var 32) .nil)))) 36
        (.leaf (.tup [(true, [.int .u64 (.var 29), .int .u64 (.var 30), .int .i64 (.var 31), .int .i64 (.var 32)]), (false, [.bool (.tt true)])]))))
       (.call 1 [.int .u64, .int .u64, .int .i64, .int .i64] .nil 34
        (.leaf (.tup [(true, [.int .u64 (.var 34), .int .u64 (.var 35), .int .i64 (.var 36), .int .i64 (.var 37)]), (false, [.bool (.tt false)])])))))))))
     (.call 1 [.int .u64, .int .u64, .int .i64, .int .i64] .nil 25
      (.leaf (.tup [(true, [.int .u64 (.var 25), .int .u64 (.var 26), .int .i64 (.var 27), .int .i64 (.var 28)]), (false, [.bool (.tt false)])])))))))
    (.call 6 [.int .u64, .int .u64, .int .i64, .int .i64] (.cons (.var 14) (.cons (.var 15) (.cons (.var 16) (.cons (.var 17) .nil)))) 18
     (.call 0 [.bool] (.cons (.var 18) (.cons (.var 19) (.cons (.var 20) (.cons (.var 21) .nil)))) 22
     (.br (.bvar 22)
     (.call 2 [.int .u64, .int .u64] (.cons (.var 18) (.cons (.var 19) (.cons (.var 20) (.cons (.var 21) .nil)))) 23
      (.call 3 [.int .i64, .int .i64] (.cons (.var 18) (.cons (.var 19) (.cons (.var 20) (.cons (.var 21) .nil)))) 25
      (.br (.eq (.bin .shr .u64 (.var 23) (.lit 63)) (.bin .shr .u64 (.var 24) (.lit 63)))
      (.call 5 [.int .i64, .int .i64] (.cons (.var 25) (.cons (.var 26) (.cons (.conv .i64 (.var 23)) (.cons (.conv .i64 (.var 24)) .nil)))) 27
       (.call 6 [.int .u64, .int .u64, .int .i64, .int .i64] (.cons (.var 23) (.cons (.var 24) (.cons (.var 27) (.cons (.var 28) .nil)))) 29
       (.call 0 [.bool] (.cons (.var 29) (.cons (.var 30) (.cons (.var 31) (.cons (.var 32) .nil)))) 33
       (.br (.bvar 33)
       (.call 2 [.int .u64, .int .u64] (.cons (.var 29) (.cons (.var 30) (.cons (.var 31) (.cons (.var 32) .nil)))) 34
        (.call 3 [.int .i64, .int .i64] (.cons (.var 29) (.cons (.var 30) (.cons (.var 31) (.cons (.var 32) .nil)))) 36
        (.leaf (.tup [(true, [.int .u64 (.var 29), .int .u64 (.var 30), .int .i64 (.var 31), .int .i64 (.var 32)]), (false, [.bool (.tt true)])]))))
       (.call 1 [.int .u64, .int .u64, .int .i64, .int .i64] .nil 34
        (.leaf (.tup [(true, [.int .u64 (.var 34), .int .u64 (.var 35), .int .i64 (.var 36), .int .i64 (.var 37)]), (false, [.bool (.tt false)])])))))))
      (.call 6 [.int .u64, .int .u64, .int .i64, .int .i64] (.cons (.var 23) (.cons (.var 24) (.cons (.var 25) (.cons (.var 26) .nil)))) 27
       (.call 0 [.bool] (.cons (.var 27) (.cons (.var 28) (.cons (.var 29) (.cons (.var 30) .nil)))) 31
       (.br (.bvar 31)
       (.call 2 [.int .u64, .int .u64] (.cons (.var 27) (.cons (.var 28) (.cons (.var 29) (.cons (.var 30) .nil)))) 32
        (.call 3 [.int .i64, .int .i64] (.cons (.var 27) (.cons (.var 28) (.cons (.var 29) (.cons (.var 30) .nil)))) 34
        (.leaf (.tup [(true, [.int .u64 (.var 27), .int .u64 (.var 28), .int .i64 (.var 29), .int .i64 (.var 30)]), (false, [.bool (.tt true)])]))))
       (.call 1 [.int .u64, .int .u64, .int .i64, .int .i64] .nil 32
        (.leaf (.tup [(true, [.int .u64 (.var 32), .int .u64 (.var 33), .int .i64 (.var 34), .int .i64 (.var 35)]), (false, [.bool (.tt false)])])))))))))
     (.call 1 [.int .u64, .int .u64, .int .i64, .int .i64] .nil 23
      (.leaf (.tup [(true, [.int .u64 (.var 23), .int .u64 (.var 24), .int .i64 (.var 25), .int .i64 (.var 26)]), (false, [.bool (.tt false)])])))))))))
   (.call 1 [.int .u64, .int .u64, .int .i64, .int .i64] .nil 14
    (.leaf (.tup [(true, [.int .u64 (.var 14), .int .u64 (.var 15), .int .i64 (.var 16), .int .i64 (.var 17)]), (false, [.bool (.tt false)])])))))))))
 (.call 1 [.int .u64, .int .u64, .int .i64, .int .i64] .nil 5
  (.leaf (.tup [(true, [.int .u64 (.var 5), .int .u64 (.var 6), .int .i64 (.var 7), .int .i64 (.var 8)]), (false, [.bool (.tt false)])])))))
def sP_nar : Spec := ⟨fun k => match k with | 0 => sI_may | 1 => sI_all | 2 => sI_uns | 3 => sI_sig | 4 => sI_umeet | 5 => sI_imeet | 6 => sI_of | _ => fun _ _ => 0, fun k => match k with | 0 => sB_may | 1 => sB_all | 2 => sB_uns | 3 => sB_sig | 4 => sB_umeet | 5 => sB_imeet | 6 => sB_of | _ => fun _ _ => false⟩
set_option maxRecDepth 100000 in
theorem sR_nar : funK ⟨tys_XbB, [sM_may 0, sM_all 1, sM_uns 2, sM_sig 3, sM_umeet 4, sM_imeet 5, sM_of 6]⟩ 200 Try.f11 [.agg [.int .u64 (.var 0), .int .u64 (.var 1), .int .i64 (.var 2), .int .i64 (.var 3)]] ⟨[], [], [some .u64, some .u64, some .i64, some .i64]⟩ = sT_nar := by kernel_rfl
set_option maxRecDepth 100000 in
set_option maxHeartbeats 8000000 in
theorem sX_nar (a : Rg) (ha : Rg.ok a) : (∀ w, Calls Try.prog 11 #[.agg #[.int .u64 a.ul, .int .u64 a.uh, .int .i64 a.sl, .int .i64 a.sh]] w fun e w' => e = .returned (.tuple #[.agg #[.int .u64 (bnar a).ul, .int .u64 (bnar a).uh, .int .i64 (bnar a).sl, .int .i64 (bnar a).sh], .bool (bnok a)]) ∧ Ext w w') ∧ valIn (.tuple #[.agg #[.int .u64 (bnar a).ul, .int .u64 (bnar a).uh, .int .i64 (bnar a).sl, .int .i64 (bnar a).sh], .bool (bnok a)]) = true := by
  refine fun_calls (cx := ⟨tys_XbB, [sM_may 0, sM_all 1, sM_uns 2, sM_sig 3, sM_umeet 4, sM_imeet 5, sM_of 6]⟩) (sp := sP_nar) (t := sT_nar) (by kernel_rfl) tysok_XbB (List.forall_mem_cons.2 ⟨sK_may rfl rfl, List.forall_mem_cons.2 ⟨sK_all rfl rfl, List.forall_mem_cons.2 ⟨sK_uns rfl rfl, List.forall_mem_cons.2 ⟨sK_sig rfl rfl, List.forall_mem_cons.2 ⟨sK_umeet rfl rfl, List.forall_mem_cons.2 ⟨sK_imeet rfl rfl, List.forall_mem_cons.2 ⟨sK_of rfl rfl, fun _ h => (by cases h)⟩⟩⟩⟩⟩⟩⟩) (keys_of (by kernel_rfl)) Try.func11 ⟨fun n => ([a.ul, a.uh, a.sl, a.sh] : List Int).getD n 0, fun n => ([false, false, false, false] : List Bool).getD n false⟩ sR_nar (by kernel_rfl) ?_ rfl (by intro p hp; cases hp) ?_ ?_
  · intro n k hk
    have hlt : n < 4 := by
      rcases Nat.lt_or_ge n 4 with h | h
      · exact h
      · rw [List.getElem?_eq_none h] at hk; cases hk
    rcases (show n = 0 ∨ n = 1 ∨ n = 2 ∨ n = 3 by omega) with rfl | rfl | rfl | rfl
    · cases hk; exact ha.1
    · cases hk; exact ha.2.1
    · cases hk; exact ha.2.2.1
    · cases hk; exact ha.2.2.2
  · intro ρ hag
    have g0 : ρ.i 0 = a.ul := (hag 0 (by decide)).1.symm
    have g1 : ρ.i 1 = a.uh := (hag 1 (by decide)).1.symm
    have g2 : ρ.i 2 = a.sl := (hag 2 (by decide)).1.symm
    have g3 : ρ.i 3 = a.sh := (hag 3 (by decide)).1.symm
    show some ([.agg #[.int .u64 (ρ.i 0), .int .u64 (ρ.i 1), .int .i64 (ρ.i 2), .int .i64 (ρ.i 3)]] : List Value) = _
    rw [g0, g1, g2, g3]
  · intro ρ hag
    have g0 : ρ.i 0 = a.ul := (hag 0 (by decide)).1.symm
    have g1 : ρ.i 1 = a.uh := (hag 1 (by decide)).1.symm
    have g2 : ρ.i 2 = a.sl := (hag 2 (by decide)).1.symm
    have g3 : ρ.i 3 = a.sh := (hag 3 (by decide)).1.symm
    simp only [sT_nar, Tr.asks, eqs, E.I, E.B, E.L, V.den, C.den, denL, den0, den0L, Option.map_some, Nat.add_zero, Nat.reduceAdd, and_true, Rg.eta, g0, g1, g2, g3]
    simp only [sP_nar, b01, Pi.eta, Pu.eta, Rg.eta, sI_may, sB_may, sI_all, sB_all, sI_uns, sB_uns, sI_sig, sB_sig, sI_umeet, sB_umeet, sI_imeet, sB_imeet, sI_of, sB_of]
    have wfg := Rg.wf_of ha
    intro e4
    (try simp only [e4, Pi.eta, Pu.eta, Rg.eta])
    (try clear e4)
    refine ⟨fun c0 => ?_, fun c0 => ?_⟩
    · skip
      rintro ⟨e5, e6⟩
      (try simp only [e5, e6, Pi.eta, Pu.eta, Rg.eta])
      (try clear e5 e6)
      rintro ⟨e7, e8⟩
      (try simp only [e7, e8, Pi.eta, Pu.eta, Rg.eta])
      (try clear e7 e8)
      refine ⟨fun c1 => ?_, fun c1 => ?_⟩
      · skip
        rintro ⟨e9, e10⟩
        (try simp only [e9, e10, Pi.eta, Pu.eta, Rg.eta])
        (try clear e9 e10)
        rintro ⟨e11, e12, e13, e14⟩
        (try simp only [e11, e12, e13, e14, Pi.eta, Pu.eta, Rg.eta])
        (try clear e11 e12 e13 e14)
        intro e15
        (try simp only [e15, Pi.eta, Pu.eta, Rg.eta])
        (try clear e15)
        refine ⟨fun c2 => ?_, fun c2 => ?_⟩
        · skip
          rintro ⟨e16, e17⟩
          (try simp only [e16, e17, Pi.eta, Pu.eta, Rg.eta])
          (try clear e16 e17)
          rintro ⟨e18, e19⟩
          (try simp only [e18, e19, Pi.eta, Pu.eta, Rg.eta])
          (try clear e18 e19)
          refine ⟨fun c3 => ?_, fun c3 => ?_⟩
          · skip
            rintro ⟨e20, e21⟩
            (try simp only [e20, e21, Pi.eta, Pu.eta, Rg.eta])
            (try clear e20 e21)
            rintro ⟨e22, e23, e24, e25⟩
            (try simp only [e22, e23, e24, e25, Pi.eta, Pu.eta, Rg.eta])
            (try clear e22 e23 e24 e25)
            intro e26
            (try simp only [e26, Pi.eta, Pu.eta, Rg.eta])
            (try clear e26)
            refine ⟨fun c4 => ?_, fun c4 => ?_⟩
            · skip
              rintro ⟨e27, e28⟩
              (try simp only [e27, e28, Pi.eta, Pu.eta, Rg.eta])
              (try clear e27 e28)
              rintro ⟨e29, e30⟩
              (try simp only [e29, e30, Pi.eta, Pu.eta, Rg.eta])
              (try clear e29 e30)
              refine ⟨fun c5 => ?_, fun c5 => ?_⟩
              · skip
                rintro ⟨e31, e32⟩
                (try simp only [e31, e32, Pi.eta, Pu.eta, Rg.eta])
                (try clear e31 e32)
                rintro ⟨e33, e34, e35, e36⟩
                (try simp only [e33, e34, e35, e36, Pi.eta, Pu.eta, Rg.eta])
                (try clear e33 e34 e35 e36)
                intro e37
                (try simp only [e37, Pi.eta, Pu.eta, Rg.eta])
                (try clear e37)
                refine ⟨fun c6 => ?_, fun c6 => ?_⟩
                · skip
                  rintro ⟨e38, e39⟩
                  (try simp only [e38, e39, Pi.eta, Pu.eta, Rg.eta])
                  (try clear e38 e39)
                  rintro ⟨e40, e41⟩
                  (try simp only [e40, e41, Pi.eta, Pu.eta, Rg.eta])
                  (try clear e40 e41)
                  all_goals
                    refine congrArg some ?_
                    (have s1 := sgn_t (wfg) (by exact c1); have s2 := uns_t (r := bsgn a) (by rw [s1]; exact c3); have s3 := sgn_t (wf_buns (wf_bsgn wfg)) (by rw [s2, s1]; exact c5); have hok : bnok a = true := (by unfold bnok; (try rw [s3, s2, s1]); (try rw [c0]); (try rw [c2]); (try rw [c4]); (try rw [c6]); (try rfl)); have hnar : bnar a = bsgn (buns (bsgn a)) := (by unfold bnar; rw [hok]; rfl); rw [hok, hnar]; rw [s3, s2, s1]; (try rfl))
                · skip
                  rintro ⟨e38, e39, e40, e41⟩
                  (try simp only [e38, e39, e40, e41, Pi.eta, Pu.eta, Rg.eta])
                  (try clear e38 e39 e40 e41)
                  all_goals
                    refine congrArg some ?_
                    (have s1 := sgn_t (wfg) (by exact c1); have s2 := uns_t (r := bsgn a) (by rw [s1]; exact c3); have s3 := sgn_t (wf_buns (wf_bsgn wfg)) (by rw [s2, s1]; exact c5); have hok : bnok a = false := (by unfold bnok; (try rw [s3, s2, s1]); (try rw [c0]); (try rw [c2]); (try rw [c4]); (try rw [c6]); (try rfl)); have hnar : bnar a = ball := (by unfold bnar; rw [hok]; rfl); rw [hok, hnar]; (try rfl))
              · skip
                rintro ⟨e31, e32, e33, e34⟩
                (try simp only [e31, e32, e33, e34, Pi.eta, Pu.eta, Rg.eta])
                (try clear e31 e32 e33 e34)
                intro e35
                (try simp only [e35, Pi.eta, Pu.eta, Rg.eta])
                (try clear e35)
                refine ⟨fun c7 => ?_, fun c7 => ?_⟩
                · skip
                  rintro ⟨e36, e37⟩
                  (try simp only [e36, e37, Pi.eta, Pu.eta, Rg.eta])
                  (try clear e36 e37)
                  rintro ⟨e38, e39⟩
                  (try simp only [e38, e39, Pi.eta, Pu.eta, Rg.eta])
                  (try clear e38 e39)
                  all_goals
                    refine congrArg some ?_
                    (have s1 := sgn_t (wfg) (by exact c1); have s2 := uns_t (r := bsgn a) (by rw [s1]; exact c3); have s3 := sgn_f (wf_buns (wf_bsgn wfg)) (by rw [s2, s1]; exact c5); have hok : bnok a = true := (by unfold bnok; (try rw [s3, s2, s1]); (try rw [c0]); (try rw [c2]); (try rw [c4]); (try rw [c7]); (try rfl)); have hnar : bnar a = bsgn (buns (bsgn a)) := (by unfold bnar; rw [hok]; rfl); rw [hok, hnar]; rw [s3, s2, s1]; (try rfl))
                · skip
                  rintro ⟨e36, e37, e38, e39⟩
                  (try simp only [e36, e37, e38, e39, Pi.eta, Pu.eta, Rg.eta])
                  (try clear e36 e37 e38 e39)
                  all_goals
                    refine congrArg some ?_
                    exact absurd (c4.symm.trans c7) (by simp)
            · skip
              rintro ⟨e27, e28, e29, e30⟩
              (try simp only [e27, e28, e29, e30, Pi.eta, Pu.eta, Rg.eta])
              (try clear e27 e28 e29 e30)
              all_goals
                refine congrArg some ?_
                (have s1 := sgn_t (wfg) (by exact c1); have s2 := uns_t (r := bsgn a) (by rw [s1]; exact c3); have hok : bnok a = false := (by unfold bnok; (try rw [s2, s1]); (try rw [c0]); (try rw [c2]); (try rw [c4]); (try rfl)); have hnar : bnar a = ball := (by unfold bnar; rw [hok]; rfl); rw [hok, hnar]; (try rfl))
          · skip
            rintro ⟨e20, e21, e22, e23⟩
            (try simp only [e20, e21, e22, e23, Pi.eta, Pu.eta, Rg.eta])
            (try clear e20 e21 e22 e23)
            intro e24
            (try simp only [e24, Pi.eta, Pu.eta, Rg.eta])
            (try clear e24)
            refine ⟨fun c8 => ?_, fun c8 => ?_⟩
            · skip
              rintro ⟨e25, e26⟩
              (try simp only [e25, e26, Pi.eta, Pu.eta, Rg.eta])
              (try clear e25 e26)
              rintro ⟨e27, e28⟩
              (try simp only [e27, e28, Pi.eta, Pu.eta, Rg.eta])
              (try clear e27 e28)
              refine ⟨fun c9 => ?_, fun c9 => ?_⟩
              · skip
                rintro ⟨e29, e30⟩
                (try simp only [e29, e30, Pi.eta, Pu.eta, Rg.eta])
                (try clear e29 e30)
                rintro ⟨e31, e32, e33, e34⟩
                (try simp only [e31, e32, e33, e34, Pi.eta, Pu.eta, Rg.eta])
                (try clear e31 e32 e33 e34)
                intro e35
                (try simp only [e35, Pi.eta, Pu.eta, Rg.eta])
                (try clear e35)
                refine ⟨fun c10 => ?_, fun c10 => ?_⟩
                · skip
                  rintro ⟨e36, e37⟩
                  (try simp only [e36, e37, Pi.eta, Pu.eta, Rg.eta])
                  (try clear e36 e37)
                  rintro ⟨e38, e39⟩
                  (try simp only [e38, e39, Pi.eta, Pu.eta, Rg.eta])
                  (try clear e38 e39)
                  all_goals
                    refine congrArg some ?_
                    (have s1 := sgn_t (wfg) (by exact c1); have s2 := uns_f (r := bsgn a) (by rw [s1]; exact c3); have s3 := sgn_t (wf_buns (wf_bsgn wfg)) (by rw [s2, s1]; exact c9); have hok : bnok a = true := (by unfold bnok; (try rw [s3, s2, s1]); (try rw [c0]); (try rw [c2]); (try rw [c8]); (try rw [c10]); (try rfl)); have hnar : bnar a = bsgn (buns (bsgn a)) := (by unfold bnar; rw [hok]; rfl); rw [hok, hnar]; rw [s3, s2, s1]; (try rfl))
                · skip
                  rintro ⟨e36, e37, e38, e39⟩
                  (try simp only [e36, e37, e38, e39, Pi.eta, Pu.eta, Rg.eta])
                  (try clear e36 e37 e38 e39)
                  all_goals
                    refine congrArg some ?_
                    (have s1 := sgn_t (wfg) (by exact c1); have s2 := uns_f (r := bsgn a) (by rw [s1]; exact c3); have s3 := sgn_t (wf_buns (wf_bsgn wfg)) (by rw [s2, s1]; exact c9); have hok : bnok a = false := (by unfold bnok; (try rw [s3, s2, s1]); (try rw [c0]); (try rw [c2]); (try rw [c8]); (try rw [c10]); (try rfl)); have hnar : bnar a = ball := (by unfold bnar; rw [hok]; rfl); rw [hok, hnar]; (try rfl))
              · skip
                rintro ⟨e29, e30, e31, e32⟩
                (try simp only [e29, e30, e31, e32, Pi.eta, Pu.eta, Rg.eta])
                (try clear e29 e30 e31 e32)
                intro e33
                (try simp only [e33, Pi.eta, Pu.eta, Rg.eta])
                (try clear e33)
                refine ⟨fun c11 => ?_, fun c11 => ?_⟩
                · skip
                  rintro ⟨e34, e35⟩
                  (try simp only [e34, e35, Pi.eta, Pu.eta, Rg.eta])
                  (try clear e34 e35)
                  rintro ⟨e36, e37⟩
                  (try simp only [e36, e37, Pi.eta, Pu.eta, Rg.eta])
                  (try clear e36 e37)
                  all_goals
                    refine congrArg some ?_
                    (have s1 := sgn_t (wfg) (by exact c1); have s2 := uns_f (r := bsgn a) (by rw [s1]; exact c3); have s3 := sgn_f (wf_buns (wf_bsgn wfg)) (by rw [s2, s1]; exact c9); have hok : bnok a = true := (by unfold bnok; (try rw [s3, s2, s1]); (try rw [c0]); (try rw [c2]); (try rw [c8]); (try rw [c11]); (try rfl)); have hnar : bnar a = bsgn (buns (bsgn a)) := (by unfold bnar; rw [hok]; rfl); rw [hok, hnar]; rw [s3, s2, s1]; (try rfl))
                · skip
                  rintro ⟨e34, e35, e36, e37⟩
                  (try simp only [e34, e35, e36, e37, Pi.eta, Pu.eta, Rg.eta])
                  (try clear e34 e35 e36 e37)
                  all_goals
                    refine congrArg some ?_
                    exact absurd (c8.symm.trans c11) (by simp)
            · skip
              rintro ⟨e25, e26, e27, e28⟩
              (try simp only [e25, e26, e27, e28, Pi.eta, Pu.eta, Rg.eta])
              (try clear e25 e26 e27 e28)
              all_goals
                refine congrArg some ?_
                exact absurd (c2.symm.trans c8) (by simp)
        · skip
          rintro ⟨e16, e17, e18, e19⟩
          (try simp only [e16, e17, e18, e19, Pi.eta, Pu.eta, Rg.eta])
          (try clear e16 e17 e18 e19)
          all_goals
            refine congrArg some ?_
            (have s1 := sgn_t (wfg) (by exact c1); have hok : bnok a = false := (by unfold bnok; (try rw [s1]); (try rw [c0]); (try rw [c2]); (try rfl)); have hnar : bnar a = ball := (by unfold bnar; rw [hok]; rfl); rw [hok, hnar]; (try rfl))
      · skip
        rintro ⟨e9, e10, e11, e12⟩
        (try simp only [e9, e10, e11, e12, Pi.eta, Pu.eta, Rg.eta])
        (try clear e9 e10 e11 e12)
        intro e13
        (try simp only [e13, Pi.eta, Pu.eta, Rg.eta])
        (try clear e13)
        refine ⟨fun c12 => ?_, fun c12 => ?_⟩
        · skip
          rintro ⟨e14, e15⟩
          (try simp only [e14, e15, Pi.eta, Pu.eta, Rg.eta])
          (try clear e14 e15)
          rintro ⟨e16, e17⟩
          (try simp only [e16, e17, Pi.eta, Pu.eta, Rg.eta])
          (try clear e16 e17)
          refine ⟨fun c13 => ?_, fun c13 => ?_⟩
          · skip
            rintro ⟨e18, e19⟩
            (try simp only [e18, e19, Pi.eta, Pu.eta, Rg.eta])
            (try clear e18 e19)
            rintro ⟨e20, e21, e22, e23⟩
            (try simp only [e20, e21, e22, e23, Pi.eta, Pu.eta, Rg.eta])
            (try clear e20 e21 e22 e23)
            intro e24
            (try simp only [e24, Pi.eta, Pu.eta, Rg.eta])
            (try clear e24)
            refine ⟨fun c14 => ?_, fun c14 => ?_⟩
            · skip
              rintro ⟨e25, e26⟩
              (try simp only [e25, e26, Pi.eta, Pu.eta, Rg.eta])
              (try clear e25 e26)
              rintro ⟨e27, e28⟩
              (try simp only [e27, e28, Pi.eta, Pu.eta, Rg.eta])
              (try clear e27 e28)
              refine ⟨fun c15 => ?_, fun c15 => ?_⟩
              · skip
                rintro ⟨e29, e30⟩
                (try simp only [e29, e30, Pi.eta, Pu.eta, Rg.eta])
                (try clear e29 e30)
                rintro ⟨e31, e32, e33, e34⟩
                (try simp only [e31, e32, e33, e34, Pi.eta, Pu.eta, Rg.eta])
                (try clear e31 e32 e33 e34)
                intro e35
                (try simp only [e35, Pi.eta, Pu.eta, Rg.eta])
                (try clear e35)
                refine ⟨fun c16 => ?_, fun c16 => ?_⟩
                · skip
                  rintro ⟨e36, e37⟩
                  (try simp only [e36, e37, Pi.eta, Pu.eta, Rg.eta])
                  (try clear e36 e37)
                  rintro ⟨e38, e39⟩
                  (try simp only [e38, e39, Pi.eta, Pu.eta, Rg.eta])
                  (try clear e38 e39)
                  all_goals
                    refine congrArg some ?_
                    (have s1 := sgn_f (wfg) (by exact c1); have s2 := uns_t (r := bsgn a) (by rw [s1]; exact c13); have s3 := sgn_t (wf_buns (wf_bsgn wfg)) (by rw [s2, s1]; exact c15); have hok : bnok a = true := (by unfold bnok; (try rw [s3, s2, s1]); (try rw [c0]); (try rw [c12]); (try rw [c14]); (try rw [c16]); (try rfl)); have hnar : bnar a = bsgn (buns (bsgn a)) := (by unfold bnar; rw [hok]; rfl); rw [hok, hnar]; rw [s3, s2, s1]; (try rfl))
                · skip
                  rintro ⟨e36, e37, e38, e39⟩
                  (try simp only [e36, e37, e38, e39, Pi.eta, Pu.eta, Rg.eta])
                  (try clear e36 e37 e38 e39)
                  all_goals
                    refine congrArg some ?_
                    (have s1 := sgn_f (wfg) (by exact c1); have s2 := uns_t (r := bsgn a) (by rw [s1]; exact c13); have s3 := sgn_t (wf_buns (wf_bsgn wfg)) (by rw [s2, s1]; exact c15); have hok : bnok a = false := (by unfold bnok; (try rw [s3, s2, s1]); (try rw [c0]); (try rw [c12]); (try rw [c14]); (try rw [c16]); (try rfl)); have hnar : bnar a = ball := (by unfold bnar; rw [hok]; rfl); rw [hok, hnar]; (try rfl))
              · skip
                rintro ⟨e29, e30, e31, e32⟩
                (try simp only [e29, e30, e31, e32, Pi.eta, Pu.eta, Rg.eta])
                (try clear e29 e30 e31 e32)
                intro e33
                (try simp only [e33, Pi.eta, Pu.eta, Rg.eta])
                (try clear e33)
                refine ⟨fun c17 => ?_, fun c17 => ?_⟩
                · skip
                  rintro ⟨e34, e35⟩
                  (try simp only [e34, e35, Pi.eta, Pu.eta, Rg.eta])
                  (try clear e34 e35)
                  rintro ⟨e36, e37⟩
                  (try simp only [e36, e37, Pi.eta, Pu.eta, Rg.eta])
                  (try clear e36 e37)
                  all_goals
                    refine congrArg some ?_
                    (have s1 := sgn_f (wfg) (by exact c1); have s2 := uns_t (r := bsgn a) (by rw [s1]; exact c13); have s3 := sgn_f (wf_buns (wf_bsgn wfg)) (by rw [s2, s1]; exact c15); have hok : bnok a = true := (by unfold bnok; (try rw [s3, s2, s1]); (try rw [c0]); (try rw [c12]); (try rw [c14]); (try rw [c17]); (try rfl)); have hnar : bnar a = bsgn (buns (bsgn a)) := (by unfold bnar; rw [hok]; rfl); rw [hok, hnar]; rw [s3, s2, s1]; (try rfl))
                · skip
                  rintro ⟨e34, e35, e36, e37⟩
                  (try simp only [e34, e35, e36, e37, Pi.eta, Pu.eta, Rg.eta])
                  (try clear e34 e35 e36 e37)
                  all_goals
                    refine congrArg some ?_
                    exact absurd (c14.symm.trans c17) (by simp)
            · skip
              rintro ⟨e25, e26, e27, e28⟩
              (try simp only [e25, e26, e27, e28, Pi.eta, Pu.eta, Rg.eta])
              (try clear e25 e26 e27 e28)
              all_goals
                refine congrArg some ?_
                (have s1 := sgn_f (wfg) (by exact c1); have s2 := uns_t (r := bsgn a) (by rw [s1]; exact c13); have hok : bnok a = false := (by unfold bnok; (try rw [s2, s1]); (try rw [c0]); (try rw [c12]); (try rw [c14]); (try rfl)); have hnar : bnar a = ball := (by unfold bnar; rw [hok]; rfl); rw [hok, hnar]; (try rfl))
          · skip
            rintro ⟨e18, e19, e20, e21⟩
            (try simp only [e18, e19, e20, e21, Pi.eta, Pu.eta, Rg.eta])
            (try clear e18 e19 e20 e21)
            intro e22
            (try simp only [e22, Pi.eta, Pu.eta, Rg.eta])
            (try clear e22)
            refine ⟨fun c18 => ?_, fun c18 => ?_⟩
            · skip
              rintro ⟨e23, e24⟩
              (try simp only [e23, e24, Pi.eta, Pu.eta, Rg.eta])
              (try clear e23 e24)
              rintro ⟨e25, e26⟩
              (try simp only [e25, e26, Pi.eta, Pu.eta, Rg.eta])
              (try clear e25 e26)
              refine ⟨fun c19 => ?_, fun c19 => ?_⟩
              · skip
                rintro ⟨e27, e28⟩
                (try simp only [e27, e28, Pi.eta, Pu.eta, Rg.eta])
                (try clear e27 e28)
                rintro ⟨e29, e30, e31, e32⟩
                (try simp only [e29, e30, e31, e32, Pi.eta, Pu.eta, Rg.eta])
                (try clear e29 e30 e31 e32)
                intro e33
                (try simp only [e33, Pi.eta, Pu.eta, Rg.eta])
                (try clear e33)
                refine ⟨fun c20 => ?_, fun c20 => ?_⟩
                · skip
                  rintro ⟨e34, e35⟩
                  (try simp only [e34, e35, Pi.eta, Pu.eta, Rg.eta])
                  (try clear e34 e35)
                  rintro ⟨e36, e37⟩
                  (try simp only [e36, e37, Pi.eta, Pu.eta, Rg.eta])
                  (try clear e36 e37)
                  all_goals
                    refine congrArg some ?_
                    (have s1 := sgn_f (wfg) (by exact c1); have s2 := uns_f (r := bsgn a) (by rw [s1]; exact c13); have s3 := sgn_t (wf_buns (wf_bsgn wfg)) (by rw [s2, s1]; exact c19); have hok : bnok a = true := (by unfold bnok; (try rw [s3, s2, s1]); (try rw [c0]); (try rw [c12]); (try rw [c18]); (try rw [c20]); (try rfl)); have hnar : bnar a = bsgn (buns (bsgn a)) := (by unfold bnar; rw [hok]; rfl); rw [hok, hnar]; rw [s3, s2, s1]; (try rfl))
                · skip
                  rintro ⟨e34, e35, e36, e37⟩
                  (try simp only [e34, e35, e36, e37, Pi.eta, Pu.eta, Rg.eta])
                  (try clear e34 e35 e36 e37)
                  all_goals
                    refine congrArg some ?_
                    (have s1 := sgn_f (wfg) (by exact c1); have s2 := uns_f (r := bsgn a) (by rw [s1]; exact c13); have s3 := sgn_t (wf_buns (wf_bsgn wfg)) (by rw [s2, s1]; exact c19); have hok : bnok a = false := (by unfold bnok; (try rw [s3, s2, s1]); (try rw [c0]); (try rw [c12]); (try rw [c18]); (try rw [c20]); (try rfl)); have hnar : bnar a = ball := (by unfold bnar; rw [hok]; rfl); rw [hok, hnar]; (try rfl))
              · skip
                rintro ⟨e27, e28, e29, e30⟩
                (try simp only [e27, e28, e29, e30, Pi.eta, Pu.eta, Rg.eta])
                (try clear e27 e28 e29 e30)
                intro e31
                (try simp only [e31, Pi.eta, Pu.eta, Rg.eta])
                (try clear e31)
                refine ⟨fun c21 => ?_, fun c21 => ?_⟩
                · skip
                  rintro ⟨e32, e33⟩
                  (try simp only [e32, e33, Pi.eta, Pu.eta, Rg.eta])
                  (try clear e32 e33)
                  rintro ⟨e34, e35⟩
                  (try simp only [e34, e35, Pi.eta, Pu.eta, Rg.eta])
                  (try clear e34 e35)
                  all_goals
                    refine congrArg some ?_
                    (have s1 := sgn_f (wfg) (by exact c1); have s2 := uns_f (r := bsgn a) (by rw [s1]; exact c13); have s3 := sgn_f (wf_buns (wf_bsgn wfg)) (by rw [s2, s1]; exact c19); have hok : bnok a = true := (by unfold bnok; (try rw [s3, s2, s1]); (try rw [c0]); (try rw [c12]); (try rw [c18]); (try rw [c21]); (try rfl)); have hnar : bnar a = bsgn (buns (bsgn a)) := (by unfold bnar; rw [hok]; rfl); rw [hok, hnar]; rw [s3, s2, s1]; (try rfl))
                · skip
                  rintro ⟨e32, e33, e34, e35⟩
                  (try simp only [e32, e33, e34, e35, Pi.eta, Pu.eta, Rg.eta])
                  (try clear e32 e33 e34 e35)
                  all_goals
                    refine congrArg some ?_
                    exact absurd (c18.symm.trans c21) (by simp)
            · skip
              rintro ⟨e23, e24, e25, e26⟩
              (try simp only [e23, e24, e25, e26, Pi.eta, Pu.eta, Rg.eta])
              (try clear e23 e24 e25 e26)
              all_goals
                refine congrArg some ?_
                exact absurd (c12.symm.trans c18) (by simp)
        · skip
          rintro ⟨e14, e15, e16, e17⟩
          (try simp only [e14, e15, e16, e17, Pi.eta, Pu.eta, Rg.eta])
          (try clear e14 e15 e16 e17)
          all_goals
            refine congrArg some ?_
            exact absurd (c0.symm.trans c12) (by simp)
    · skip
      rintro ⟨e5, e6, e7, e8⟩
      (try simp only [e5, e6, e7, e8, Pi.eta, Pu.eta, Rg.eta])
      (try clear e5 e6 e7 e8)
      all_goals
        refine congrArg some ?_
        (have hok : bnok a = false := (by unfold bnok; (try rw [hok]); (try rw [c0]); (try rfl)); have hnar : bnar a = ball := (by unfold bnar; rw [hok]; rfl); rw [hok, hnar]; (try rfl))
def sM_nar (key : Nat) : Sm := ⟨11, key, [(true, [.int .u64, .int .u64, .int .i64, .int .i64])], [(true, [.int .u64, .int .u64, .int .i64, .int .i64]), (false, [.bool])], true⟩
def sI_nar : Nat → List Int → Int
  | 0, [x0, x1, x2, x3] => (fun (a : Rg) => (bnar a).ul) ⟨x0, x1, x2, x3⟩
  | 1, [x0, x1, x2, x3] => (fun (a : Rg) => (bnar a).uh) ⟨x0, x1, x2, x3⟩
  | 2, [x0, x1, x2, x3] => (fun (a : Rg) => (bnar a).sl) ⟨x0, x1, x2, x3⟩
  | 3, [x0, x1, x2, x3] => (fun (a : Rg) => (bnar a).sh) ⟨x0, x1, x2, x3⟩
  | _, _ => 0
def sB_nar : Nat → List Int → Bool
  | 4, [x0, x1, x2, x3] => (fun (a : Rg) => bnok a) ⟨x0, x1, x2, x3⟩
  | _, _ => false
theorem sK_nar {sp : Spec} {key : Nat} (hI : sp.I key = sI_nar) (hB : sp.B key = sB_nar) : SmOk Try.prog sp (sM_nar key) := by
  refine SmOk.of (.inl ⟨run_enter Try.func11 (by kernel_rfl) (by kernel_rfl), fun xs vals h => ?_⟩) (.inl rfl)
  obtain ⟨_, _, _, p1, h1, rfl⟩ := shA h
  obtain ⟨_, _, _, d1_0, p1_0, rfl⟩ := cksC p1
  obtain ⟨x0, rfl, rfl, gx0⟩ := ckI d1_0
  obtain ⟨_, _, _, d1_1, p1_1, rfl⟩ := cksC p1_0
  obtain ⟨x1, rfl, rfl, gx1⟩ := ckI d1_1
  obtain ⟨_, _, _, d1_2, p1_2, rfl⟩ := cksC p1_1
  obtain ⟨x2, rfl, rfl, gx2⟩ := ckI d1_2
  obtain ⟨_, _, _, d1_3, p1_3, rfl⟩ := cksC p1_2
  obtain ⟨x3, rfl, rfl, gx3⟩ := ckI d1_3
  obtain ⟨rfl, rfl⟩ := cksN p1_3
  obtain ⟨rfl, rfl⟩ := shN h1
  refine ⟨_, sX_nar ⟨x0, x1, x2, x3⟩ ⟨gx0, gx1, gx2, gx3⟩, fun ρ v0 he => ?_⟩
  have he' : ρ.i (v0 + 0) = sp.I key 0 [x0, x1, x2, x3] ∧ ρ.i (v0 + 1) = sp.I key 1 [x0, x1, x2, x3] ∧ ρ.i (v0 + 2) = sp.I key 2 [x0, x1, x2, x3] ∧ ρ.i (v0 + 3) = sp.I key 3 [x0, x1, x2, x3] ∧ ρ.b (v0 + 4) = sp.B key 4 [x0, x1, x2, x3] ∧ True := he
  simp only [hI, hB] at he'
  obtain ⟨e0, e1, e2, e3, e4, -⟩ := he'
  show some (.tuple #[.agg #[.int .u64 (ρ.i (v0 + 0)), .int .u64 (ρ.i (v0 + 1)), .int .i64 (ρ.i (v0 + 2)), .int .i64 (ρ.i (v0 + 3))], .bool (ρ.b (v0 + 4))] : Value) = _
  rw [e0, e1, e2, e3, e4]
  rfl
def sT_plus : Tr :=
(.leaf (.tup [(false, [.int .i64 (.bin .add .i64 (.var 0) (.var 1))]), (false, [.bool (.not (.lt (.bin .and .i64 (.bin .xor .i64 (.var 0) (.bin .add .i64 (.var 0) (.var 1))) (.bin .xor .i64 (.var 1) (.bin .add .i64 (.var 0) (.var 1)))) (.lit 0)))])]))
def sP_plus : Spec := ⟨fun k => match k with | _ => fun _ _ => 0, fun k => match k with | _ => fun _ _ => false⟩
set_option maxRecDepth 100000 in
theorem sR_plus : funK ⟨tys_XbB, []⟩ 200 Try.f101 [.one (.int .i64 (.var 0)), .one (.int .i64 (.var 1))] ⟨[], [], [some .i64, some .i64]⟩ = sT_plus := by kernel_rfl
set_option maxRecDepth 100000 in
set_option maxHeartbeats 8000000 in
theorem sX_plus (a : Int) (ha : inK .i64 a = true) (b : Int) (hb : inK .i64 b = true) : (∀ w, Calls Try.prog 101 #[.int .i64 a, .int .i64 b] w fun e w' => e = .returned (.tuple #[.int .i64 (IntKind.i64.wrap (a + b)), .bool (decide (-9223372036854775808 ≤ a + b ∧ a + b ≤ 9223372036854775807))]) ∧ Ext w w') ∧ valIn (.tuple #[.int .i64 (IntKind.i64.wrap (a + b)), .bool (decide (-9223372036854775808 ≤ a + b ∧ a + b ≤ 9223372036854775807))]) = true := by
  refine fun_calls (cx := ⟨tys_XbB, []⟩) (sp := sP_plus) (t := sT_plus) (by kernel_rfl) tysok_XbB (fun _ h => (by cases h)) (keys_of (by kernel_rfl)) Try.func101 ⟨fun n => ([a, b] : List Int).getD n 0, fun n => ([false, false] : List Bool).getD n false⟩ sR_plus (by kernel_rfl) ?_ rfl (by intro p hp; cases hp) ?_ ?_
  · intro n k hk
    have hlt : n < 2 := by
      rcases Nat.lt_or_ge n 2 with h | h
      · exact h
      · rw [List.getElem?_eq_none h] at hk; cases hk
    rcases (show n = 0 ∨ n = 1 by omega) with rfl | rfl
    · cases hk; exact ha
    · cases hk; exact hb
  · intro ρ hag
    have g0 : ρ.i 0 = a := (hag 0 (by decide)).1.symm
    have g1 : ρ.i 1 = b := (hag 1 (by decide)).1.symm
    show some ([.int .i64 (ρ.i 0), .int .i64 (ρ.i 1)] : List Value) = _
    rw [g0, g1]
  · intro ρ hag
    have g0 : ρ.i 0 = a := (hag 0 (by decide)).1.symm
    have g1 : ρ.i 1 = b := (hag 1 (by decide)).1.symm
    simp only [sT_plus, Tr.asks, eqs, E.I, E.B, E.L, V.den, C.den, denL, den0, den0L, Option.map_some, Nat.add_zero, Nat.reduceAdd, and_true, g0, g1]
    all_goals
      refine congrArg some ?_
      (have ga := inK_i64 ha; have gb := inK_i64 hb; simp only [opI, ← not_lt_le, ← plus_fine ga.1 ga.2 gb.1 gb.2, Go.IntWalk.i64_left])
def sM_plus (key : Nat) : Sm := ⟨101, key, [(false, [.int .i64]), (false, [.int .i64])], [(false, [.int .i64]), (false, [.bool])], true⟩
def sI_plus : Nat → List Int → Int
  | 0, [x0, x1] => (fun (a : Int) (b : Int) => IntKind.i64.wrap (a + b)) x0 x1
  | _, _ => 0
def sB_plus : Nat → List Int → Bool
  | 1, [x0, x1] => (fun (a : Int) (b : Int) => decide (-9223372036854775808 ≤ a + b ∧ a + b ≤ 9223372036854775807)) x0 x1
  | _, _ => false
theorem sK_plus {sp : Spec} {key : Nat} (hI : sp.I key = sI_plus) (hB : sp.B key = sB_plus) : SmOk Try.prog sp (sM_plus key) := by
  refine SmOk.of (.inl ⟨run_enter Try.func101 (by kernel_rfl) (by kernel_rfl), fun xs vals h => ?_⟩) (.inl rfl)
  obtain ⟨_, _, _, d1, h1, rfl⟩ := shO h
  obtain ⟨x0, rfl, rfl, gx0⟩ := ckI d1
  obtain ⟨_, _, _, d2, h2, rfl⟩ := shO h1
  obtain ⟨x1, rfl, rfl, gx1⟩ := ckI d2
  obtain ⟨rfl, rfl⟩ := shN h2
  refine ⟨_, sX_plus x0 gx0 x1 gx1, fun ρ v0 he => ?_⟩
  have he' : ρ.i (v0 + 0) = sp.I key 0 [x0, x1] ∧ ρ.b (v0 + 1) = sp.B key 1 [x0, x1] ∧ True := he
  simp only [hI, hB] at he'
  obtain ⟨e0, e1, -⟩ := he'
  show some (.tuple #[.int .i64 (ρ.i (v0 + 0)), .bool (ρ.b (v0 + 1))] : Value) = _
  rw [e0, e1]
  rfl
def sT_minus : Tr :=
(.leaf (.tup [(false, [.int .i64 (.bin .sub .i64 (.var 0) (.var 1))]), (false, [.bool (.not (.lt (.bin .and .i64 (.bin .xor .i64 (.var 0) (.var 1)) (.bin .xor .i64 (.var 0) (.bin .sub .i64 (.var 0) (.var 1)))) (.lit 0)))])]))
def sP_minus : Spec := ⟨fun k => match k with | _ => fun _ _ => 0, fun k => match k with | _ => fun _ _ => false⟩
set_option maxRecDepth 100000 in
theorem sR_minus : funK ⟨tys_XbB, []⟩ 200 Try.f102 [.one (.int .i64 (.var 0)), .one (.int .i64 (.var 1))] ⟨[], [], [some .i64, some .i64]⟩ = sT_minus := by kernel_rfl
set_option maxRecDepth 100000 in
set_option maxHeartbeats 8000000 in
theorem sX_minus (a : Int) (ha : inK .i64 a = true) (b : Int) (hb : inK .i64 b = true) : (∀ w, Calls Try.prog 102 #[.int .i64 a, .int .i64 b] w fun e w' => e = .returned (.tuple #[.int .i64 (IntKind.i64.wrap (a - b)), .bool (decide (-9223372036854775808 ≤ a - b ∧ a - b ≤ 9223372036854775807))]) ∧ Ext w w') ∧ valIn (.tuple #[.int .i64 (IntKind.i64.wrap (a - b)), .bool (decide (-9223372036854775808 ≤ a - b ∧ a - b ≤ 9223372036854775807))]) = true := by
  refine fun_calls (cx := ⟨tys_XbB, []⟩) (sp := sP_minus) (t := sT_minus) (by kernel_rfl) tysok_XbB (fun _ h => (by cases h)) (keys_of (by kernel_rfl)) Try.func102 ⟨fun n => ([a, b] : List Int).getD n 0, fun n => ([false, false] : List Bool).getD n false⟩ sR_minus (by kernel_rfl) ?_ rfl (by intro p hp; cases hp) ?_ ?_
  · intro n k hk
    have hlt : n < 2 := by
      rcases Nat.lt_or_ge n 2 with h | h
      · exact h
      · rw [List.getElem?_eq_none h] at hk; cases hk
    rcases (show n = 0 ∨ n = 1 by omega) with rfl | rfl
    · cases hk; exact ha
    · cases hk; exact hb
  · intro ρ hag
    have g0 : ρ.i 0 = a := (hag 0 (by decide)).1.symm
    have g1 : ρ.i 1 = b := (hag 1 (by decide)).1.symm
    show some ([.int .i64 (ρ.i 0), .int .i64 (ρ.i 1)] : List Value) = _
    rw [g0, g1]
  · intro ρ hag
    have g0 : ρ.i 0 = a := (hag 0 (by decide)).1.symm
    have g1 : ρ.i 1 = b := (hag 1 (by decide)).1.symm
    simp only [sT_minus, Tr.asks, eqs, E.I, E.B, E.L, V.den, C.den, denL, den0, den0L, Option.map_some, Nat.add_zero, Nat.reduceAdd, and_true, g0, g1]
    all_goals
      refine congrArg some ?_
      (have ga := inK_i64 ha; have gb := inK_i64 hb; simp only [opI, ← not_lt_le, ← minus_fine ga.1 ga.2 gb.1 gb.2, Go.IntWalk.i64_left])
def sM_minus (key : Nat) : Sm := ⟨102, key, [(false, [.int .i64]), (false, [.int .i64])], [(false, [.int .i64]), (false, [.bool])], true⟩
def sI_minus : Nat → List Int → Int
  | 0, [x0, x1] => (fun (a : Int) (b : Int) => IntKind.i64.wrap (a - b)) x0 x1
  | _, _ => 0
def sB_minus : Nat → List Int → Bool
  | 1, [x0, x1] => (fun (a : Int) (b : Int) => decide (-9223372036854775808 ≤ a - b ∧ a - b ≤ 9223372036854775807)) x0 x1
  | _, _ => false
theorem sK_minus {sp : Spec} {key : Nat} (hI : sp.I key = sI_minus) (hB : sp.B key = sB_minus) : SmOk Try.prog sp (sM_minus key) := by
  refine SmOk.of (.inl ⟨run_enter Try.func102 (by kernel_rfl) (by kernel_rfl), fun xs vals h => ?_⟩) (.inl rfl)
  obtain ⟨_, _, _, d1, h1, rfl⟩ := shO h
  obtain ⟨x0, rfl, rfl, gx0⟩ := ckI d1
  obtain ⟨_, _, _, d2, h2, rfl⟩ := shO h1
  obtain ⟨x1, rfl, rfl, gx1⟩ := ckI d2
  obtain ⟨rfl, rfl⟩ := shN h2
  refine ⟨_, sX_minus x0 gx0 x1 gx1, fun ρ v0 he => ?_⟩
  have he' : ρ.i (v0 + 0) = sp.I key 0 [x0, x1] ∧ ρ.b (v0 + 1) = sp.B key 1 [x0, x1] ∧ True := he
  simp only [hI, hB] at he'
  obtain ⟨e0, e1, -⟩ := he'
  show some (.tuple #[.int .i64 (ρ.i (v0 + 0)), .bool (ρ.b (v0 + 1))] : Value) = _
  rw [e0, e1]
  rfl
def sT_nard : Tr :=
(.call 0 [.int .u64, .int .u64, .int .i64, .int .i64, .bool] (.cons (.var 0) (.cons (.var 1) (.cons (.var 2) (.cons (.var 3) .nil)))) 4
 (.leaf (.agg [.int .u64 (.var 4), .int .u64 (.var 5), .int .i64 (.var 6), .int .i64 (.var 7)])))
def sP_nard : Spec := ⟨fun k => match k with | 0 => sI_nar | _ => fun _ _ => 0, fun k => match k with | 0 => sB_nar | _ => fun _ _ => false⟩
set_option maxRecDepth 100000 in
theorem sR_nard : funK ⟨tys_XbB, [sM_nar 0]⟩ 200 Try.f73 [.agg [.int .u64 (.var 0), .int .u64 (.var 1), .int .i64 (.var 2), .int .i64 (.var 3)]] ⟨[], [], [some .u64, some .u64, some .i64, some .i64]⟩ = sT_nard := by kernel_rfl
set_option maxRecDepth 100000 in
set_option maxHeartbeats 8000000 in
theorem sX_nard (a : Rg) (ha : Rg.ok a) : (∀ w, Calls Try.prog 73 #[.agg #[.int .u64 a.ul, .int .u64 a.uh, .int .i64 a.sl, .int .i64 a.sh]] w fun e w' => e = .returned (.agg #[.int .u64 (bnar a).ul, .int .u64 (bnar a).uh, .int .i64 (bnar a).sl, .int .i64 (bnar a).sh]) ∧ Ext w w') ∧ valIn (.agg #[.int .u64 (bnar a).ul, .int .u64 (bnar a).uh, .int .i64 (bnar a).sl, .int .i64 (bnar a).sh]) = true := by
  refine fun_calls (cx := ⟨tys_XbB, [sM_nar 0]⟩) (sp := sP_nard) (t := sT_nard) (by kernel_rfl) tysok_XbB (List.forall_mem_cons.2 ⟨sK_nar rfl rfl, fun _ h => (by cases h)⟩) (keys_of (by kernel_rfl)) Try.func73 ⟨fun n => ([a.ul, a.uh, a.sl, a.sh] : List Int).getD n 0, fun n => ([false, false, false, false] : List Bool).getD n false⟩ sR_nard (by kernel_rfl) ?_ rfl (by intro p hp; cases hp) ?_ ?_
  · intro n k hk
    have hlt : n < 4 := by
      rcases Nat.lt_or_ge n 4 with h | h
      · exact h
      · rw [List.getElem?_eq_none h] at hk; cases hk
    rcases (show n = 0 ∨ n = 1 ∨ n = 2 ∨ n = 3 by omega) with rfl | rfl | rfl | rfl
    · cases hk; exact ha.1
    · cases hk; exact ha.2.1
    · cases hk; exact ha.2.2.1
    · cases hk; exact ha.2.2.2
  · intro ρ hag
    have g0 : ρ.i 0 = a.ul := (hag 0 (by decide)).1.symm
    have g1 : ρ.i 1 = a.uh := (hag 1 (by decide)).1.symm
    have g2 : ρ.i 2 = a.sl := (hag 2 (by decide)).1.symm
    have g3 : ρ.i 3 = a.sh := (hag 3 (by decide)).1.symm
    show some ([.agg #[.int .u64 (ρ.i 0), .int .u64 (ρ.i 1), .int .i64 (ρ.i 2), .int .i64 (ρ.i 3)]] : List Value) = _
    rw [g0, g1, g2, g3]
  · intro ρ hag
    have g0 : ρ.i 0 = a.ul := (hag 0 (by decide)).1.symm
    have g1 : ρ.i 1 = a.uh := (hag 1 (by decide)).1.symm
    have g2 : ρ.i 2 = a.sl := (hag 2 (by decide)).1.symm
    have g3 : ρ.i 3 = a.sh := (hag 3 (by decide)).1.symm
    simp only [sT_nard, Tr.asks, eqs, E.I, E.B, E.L, V.den, C.den, denL, den0, den0L, Option.map_some, Nat.add_zero, Nat.reduceAdd, and_true, Rg.eta, g0, g1, g2, g3]
    simp only [sP_nard, b01, Pi.eta, Pu.eta, Rg.eta, sI_nar, sB_nar]
    rintro ⟨e4, e5, e6, e7, e8⟩
    (try simp only [e4, e5, e6, e7, e8, Pi.eta, Pu.eta, Rg.eta])
    (try clear e4 e5 e6 e7 e8)
    all_goals
      refine congrArg some ?_
      rfl
def sM_nard (key : Nat) : Sm := ⟨73, key, [(true, [.int .u64, .int .u64, .int .i64, .int .i64])], [(true, [.int .u64, .int .u64, .int .i64, .int .i64])], false⟩
def sI_nard : Nat → List Int → Int
  | 0, [x0, x1, x2, x3] => (fun (a : Rg) => (bnar a).ul) ⟨x0, x1, x2, x3⟩
  | 1, [x0, x1, x2, x3] => (fun (a : Rg) => (bnar a).uh) ⟨x0, x1, x2, x3⟩
  | 2, [x0, x1, x2, x3] => (fun (a : Rg) => (bnar a).sl) ⟨x0, x1, x2, x3⟩
  | 3, [x0, x1, x2, x3] => (fun (a : Rg) => (bnar a).sh) ⟨x0, x1, x2, x3⟩
  | _, _ => 0
def sB_nard : Nat → List Int → Bool
  | _, _ => false
theorem sK_nard {sp : Spec} {key : Nat} (hI : sp.I key = sI_nard) (hB : sp.B key = sB_nard) : SmOk Try.prog sp (sM_nard key) := by
  refine SmOk.of (.inl ⟨run_enter Try.func73 (by kernel_rfl) (by kernel_rfl), fun xs vals h => ?_⟩) (.inr (.inl ⟨_, rfl⟩))
  obtain ⟨_, _, _, p1, h1, rfl⟩ := shA h
  obtain ⟨_, _, _, d1_0, p1_0, rfl⟩ := cksC p1
  obtain ⟨x0, rfl, rfl, gx0⟩ := ckI d1_0
  obtain ⟨_, _, _, d1_1, p1_1, rfl⟩ := cksC p1_0
  obtain ⟨x1, rfl, rfl, gx1⟩ := ckI d1_1
  obtain ⟨_, _, _, d1_2, p1_2, rfl⟩ := cksC p1_1
  obtain ⟨x2, rfl, rfl, gx2⟩ := ckI d1_2
  obtain ⟨_, _, _, d1_3, p1_3, rfl⟩ := cksC p1_2
  obtain ⟨x3, rfl, rfl, gx3⟩ := ckI d1_3
  obtain ⟨rfl, rfl⟩ := cksN p1_3
  obtain ⟨rfl, rfl⟩ := shN h1
  refine ⟨_, sX_nard ⟨x0, x1, x2, x3⟩ ⟨gx0, gx1, gx2, gx3⟩, fun ρ v0 he => ?_⟩
  have he' : ρ.i (v0 + 0) = sp.I key 0 [x0, x1, x2, x3] ∧ ρ.i (v0 + 1) = sp.I key 1 [x0, x1, x2, x3] ∧ ρ.i (v0 + 2) = sp.I key 2 [x0, x1, x2, x3] ∧ ρ.i (v0 + 3) = sp.I key 3 [x0, x1, x2, x3] ∧ True := he
  simp only [hI, hB] at he'
  obtain ⟨e0, e1, e2, e3, -⟩ := he'
  show some (.agg #[.int .u64 (ρ.i (v0 + 0)), .int .u64 (ρ.i (v0 + 1)), .int .i64 (ρ.i (v0 + 2)), .int .i64 (ρ.i (v0 + 3))] : Value) = _
  rw [e0, e1, e2, e3]
  rfl
def sT_meet : Tr :=
(.call 0 [.bool] (.cons (.var 0) (.cons (.var 1) (.cons (.var 2) (.cons (.var 3) .nil)))) 8
 (.br (.bvar 8)
 (.call 0 [.bool] (.cons (.var 4) (.cons (.var 5) (.cons (.var 6) (.cons (.var 7) .nil)))) 9
  (.br (.bvar 9)
  (.call 2 [.int .u64, .int .u64] (.cons (.var 0) (.cons (.var 1) (.cons (.var 2) (.cons (.var 3) .nil)))) 10
   (.call 2 [.int .u64, .int .u64] (.cons (.var 4) (.cons (.var 5) (.cons (.var 6) (.cons (.var 7) .nil)))) 12
   (.call 4 [.int .u64, .int .u64] (.cons (.var 10) (.cons (.var 11) (.cons (.var 12) (.cons (.var 13) .nil)))) 14
   (.call 3 [.int .i64, .int .i64] (.cons (.var 0) (.cons (.var 1) (.cons (.var 2) (.cons (.var 3) .nil)))) 16
   (.call 3 [.int .i64, .int .i64] (.cons (.var 4) (.cons (.var 5) (.cons (.var 6) (.cons (.var 7) .nil)))) 18
   (.call 5 [.int .i64, .int .i64] (.cons (.var 16) (.cons (.var 17) (.cons (.var 18) (.cons (.var 19) .nil)))) 20
   (.call 6 [.int .u64, .int .u64, .int .i64, .int .i64] (.cons (.var 14) (.cons (.var 15) (.cons (.var 20) (.cons (.var 21) .nil)))) 22
   (.call 7 [.int .u64, .int .u64, .int .i64, .int .i64, .bool] (.cons (.var 22) (.cons (.var 23) (.cons (.var 24) (.cons (.var 25) .nil)))) 26
   (.leaf (.tup [(true, [.int .u64 (.var 26), .int .u64 (.var 27), .int .i64 (.var 28), .int .i64 (.var 29)]), (false, [.bool (.bvar 30)])]))))))))))
  (.call 1 [.int .u64, .int .u64, .int .i64, .int .i64] .nil 10
   (.leaf (.tup [(true, [.int .u64 (.var 10), .int .u64 (.var 11), .int .i64 (.var 12), .int .i64 (.var 13)]), (false, [.bool (.tt false)])])))))
 (.call 1 [.int .u64, .int .u64, .int .i64, .int .i64] .nil 9
  (.leaf (.tup [(true, [.int .u64 (.var 9), .int .u64 (.var 10), .int .i64 (.var 11), .int .i64 (.var 12)]), (false, [.bool (.tt false)])])))))
def sP_meet : Spec := ⟨fun k => match k with | 0 => sI_may | 1 => sI_all | 2 => sI_uns | 3 => sI_sig | 4 => sI_umeet | 5 => sI_imeet | 6 => sI_of | 7 => sI_nar | _ => fun _ _ => 0, fun k => match k with | 0 => sB_may | 1 => sB_all | 2 => sB_uns | 3 => sB_sig | 4 => sB_umeet | 5 => sB_imeet | 6 => sB_of | 7 => sB_nar | _ => fun _ _ => false⟩
set_option maxRecDepth 100000 in
theorem sR_meet : funK ⟨tys_XbB, [sM_may 0, sM_all 1, sM_uns 2, sM_sig 3, sM_umeet 4, sM_imeet 5, sM_of 6, sM_nar 7]⟩ 200 Try.f17 [.agg [.int .u64 (.var 0), .int .u64 (.var 1), .int .i64 (.var 2), .int .i64 (.var 3)], .agg [.int .u64 (.var 4), .int .u64 (.var 5), .int .i64 (.var 6), .int .i64 (.var 7)]] ⟨[], [], [some .u64, some .u64, some .i64, some .i64, some .u64, some .u64, some .i64, some .i64]⟩ = sT_meet := by kernel_rfl
set_option maxRecDepth 100000 in
set_option maxHeartbeats 8000000 in
theorem sX_meet (a : Rg) (ha : Rg.ok a) (b : Rg) (hb : Rg.ok b) : (∀ w, Calls Try.prog 17 #[.agg #[.int .u64 a.ul, .int .u64 a.uh, .int .i64 a.sl, .int .i64 a.sh], .agg #[.int .u64 b.ul, .int .u64 b.uh, .int .i64 b.sl, .int .i64 b.sh]] w fun e w' => e = .returned (.tuple #[.agg #[.int .u64 (bmeet a b).ul, .int .u64 (bmeet a b).uh, .int .i64 (bmeet a b).sl, .int .i64 (bmeet a b).sh], .bool (bmeets a b)]) ∧ Ext w w') ∧ valIn (.tuple #[.agg #[.int .u64 (bmeet a b).ul, .int .u64 (bmeet a b).uh, .int .i64 (bmeet a b).sl, .int .i64 (bmeet a b).sh], .bool (bmeets a b)]) = true := by
  refine fun_calls (cx := ⟨tys_XbB, [sM_may 0, sM_all 1, sM_uns 2, sM_sig 3, sM_umeet 4, sM_imeet 5, sM_of 6, sM_nar 7]⟩) (sp := sP_meet) (t := sT_meet) (by kernel_rfl) tysok_XbB (List.forall_mem_cons.2 ⟨sK_may rfl rfl, List.forall_mem_cons.2 ⟨sK_all rfl rfl, List.forall_mem_cons.2 ⟨sK_uns rfl rfl, List.forall_mem_cons.2 ⟨sK_sig rfl rfl, List.forall_mem_cons.2 ⟨sK_umeet rfl rfl, List.forall_mem_cons.2 ⟨sK_imeet rfl rfl, List.forall_mem_cons.2 ⟨sK_of rfl rfl, List.forall_mem_cons.2 ⟨sK_nar rfl rfl, fun _ h => (by cases h)⟩⟩⟩⟩⟩⟩⟩⟩) (keys_of (by kernel_rfl)) Try.func17 ⟨fun n => ([a.ul, a.uh, a.sl, a.sh, b.ul, b.uh, b.sl, b.sh] : List Int).getD n 0, fun n => ([false, false, false, false, false, false, false, false] : List Bool).getD n false⟩ sR_meet (by kernel_rfl) ?_ rfl (by intro p hp; cases hp) ?_ ?_
  · intro n k hk
    have hlt : n < 8 := by
      rcases Nat.lt_or_ge n 8 with h | h
      · exact h
      · rw [List.getElem?_eq_none h] at hk; cases hk
    rcases (show n = 0 ∨ n = 1 ∨ n = 2 ∨ n = 3 ∨ n = 4 ∨ n = 5 ∨ n = 6 ∨ n = 7 by omega) with rfl | rfl | rfl | rfl | rfl | rfl | rfl | rfl
    · cases hk; exact ha.1
    · cases hk; exact ha.2.1
    · cases hk; exact ha.2.2.1
    · cases hk; exact ha.2.2.2
    · cases hk; exact hb.1
    · cases hk; exact hb.2.1
    · cases hk; exact hb.2.2.1
    · cases hk; exact hb.2.2.2
  · intro ρ hag
    have g0 : ρ.i 0 = a.ul := (hag 0 (by decide)).1.symm
    have g1 : ρ.i 1 = a.uh := (hag 1 (by decide)).1.symm
    have g2 : ρ.i 2 = a.sl := (hag 2 (by decide)).1.symm
    have g3 : ρ.i 3 = a.sh := (hag 3 (by decide)).1.symm
    have g4 : ρ.i 4 = b.ul := (hag 4 (by decide)).1.symm
    have g5 : ρ.i 5 = b.uh := (hag 5 (by decide)).1.symm
    have g6 : ρ.i 6 = b.sl := (hag 6 (by decide)).1.symm
    have g7 : ρ.i 7 = b.sh := (hag 7 (by decide)).1.symm
    show some ([.agg #[.int .u64 (ρ.i 0), .int .u64 (ρ.i 1), .int .i64 (ρ.i 2), .int .i64 (ρ.i 3)], .agg #[.int .u64 (ρ.i 4), .int .u64 (ρ.i 5), .int .i64 (ρ.i 6), .int .i64 (ρ.i 7)]] : List Value) = _
    rw [g0, g1, g2, g3, g4, g5, g6, g7]
  · intro ρ hag
    have g0 : ρ.i 0 = a.ul := (hag 0 (by decide)).1.symm
    have g1 : ρ.i 1 = a.uh := (hag 1 (by decide)).1.symm
    have g2 : ρ.i 2 = a.sl := (hag 2 (by decide)).1.symm
    have g3 : ρ.i 3 = a.sh := (hag 3 (by decide)).1.symm
    have g4 : ρ.i 4 = b.ul := (hag 4 (by decide)).1.symm
    have g5 : ρ.i 5 = b.uh := (hag 5 (by decide)).1.symm
    have g6 : ρ.i 6 = b.sl := (hag 6 (by decide)).1.symm
    have g7 : ρ.i 7 = b.sh := (hag 7 (by decide)).1.symm
    simp only [sT_meet, Tr.asks, eqs, E.I, E.B, E.L, V.den, C.den, denL, den0, den0L, Option.map_some, Nat.add_zero, Nat.reduceAdd, and_true, Rg.eta, g0, g1, g2, g3, g4, g5, g6, g7]
    simp only [sP_meet, b01, Pi.eta, Pu.eta, Rg.eta, sI_may, sB_may, sI_all, sB_all, sI_uns, sB_uns, sI_sig, sB_sig, sI_umeet, sB_umeet, sI_imeet, sB_imeet, sI_of, sB_of, sI_nar, sB_nar]
    intro e8
    (try simp only [e8, Pi.eta, Pu.eta, Rg.eta])
    (try clear e8)
    refine ⟨fun c0 => ?_, fun c0 => ?_⟩
    · skip
      intro e9
      (try simp only [e9, Pi.eta, Pu.eta, Rg.eta])
      (try clear e9)
      refine ⟨fun c1 => ?_, fun c1 => ?_⟩
      · skip
        rintro ⟨e10, e11⟩
        (try simp only [e10, e11, Pi.eta, Pu.eta, Rg.eta])
        (try clear e10 e11)
        rintro ⟨e12, e13⟩
        (try simp only [e12, e13, Pi.eta, Pu.eta, Rg.eta])
        (try clear e12 e13)
        rintro ⟨e14, e15⟩
        (try simp only [e14, e15, Pi.eta, Pu.eta, Rg.eta])
        (try clear e14 e15)
        rintro ⟨e16, e17⟩
        (try simp only [e16, e17, Pi.eta, Pu.eta, Rg.eta])
        (try clear e16 e17)
        rintro ⟨e18, e19⟩
        (try simp only [e18, e19, Pi.eta, Pu.eta, Rg.eta])
        (try clear e18 e19)
        rintro ⟨e20, e21⟩
        (try simp only [e20, e21, Pi.eta, Pu.eta, Rg.eta])
        (try clear e20 e21)
        rintro ⟨e22, e23, e24, e25⟩
        (try simp only [e22, e23, e24, e25, Pi.eta, Pu.eta, Rg.eta])
        (try clear e22 e23 e24 e25)
        rintro ⟨e26, e27, e28, e29, e30⟩
        (try simp only [e26, e27, e28, e29, e30, Pi.eta, Pu.eta, Rg.eta])
        (try clear e26 e27 e28 e29 e30)
        all_goals
          refine congrArg some ?_
          (unfold bmeet bmeets; simp_all [bmeet0, bnar_if])
      · skip
        rintro ⟨e10, e11, e12, e13⟩
        (try simp only [e10, e11, e12, e13, Pi.eta, Pu.eta, Rg.eta])
        (try clear e10 e11 e12 e13)
        all_goals
          refine congrArg some ?_
          (unfold bmeet bmeets; simp_all [bmeet0, bnar_if])
    · skip
      rintro ⟨e9, e10, e11, e12⟩
      (try simp only [e9, e10, e11, e12, Pi.eta, Pu.eta, Rg.eta])
      (try clear e9 e10 e11 e12)
      all_goals
        refine congrArg some ?_
        (unfold bmeet bmeets; simp_all [bmeet0, bnar_if])
def sM_meet (key : Nat) : Sm := ⟨17, key, [(true, [.int .u64, .int .u64, .int .i64, .int .i64]), (true, [.int .u64, .int .u64, .int .i64, .int .i64])], [(true, [.int .u64, .int .u64, .int .i64, .int .i64]), (false, [.bool])], true⟩
def sI_meet : Nat → List Int → Int
  | 0, [x0, x1, x2, x3, x4, x5, x6, x7] => (fun (a : Rg) (b : Rg) => (bmeet a b).ul) ⟨x0, x1, x2, x3⟩ ⟨x4, x5, x6, x7⟩
  | 1, [x0, x1, x2, x3, x4, x5, x6, x7] => (fun (a : Rg) (b : Rg) => (bmeet a b).uh) ⟨x0, x1, x2, x3⟩ ⟨x4, x5, x6, x7⟩
  | 2, [x0, x1, x2, x3, x4, x5, x6, x7] => (fun (a : Rg) (b : Rg) => (bmeet a b).sl) ⟨x0, x1, x2, x3⟩ ⟨x4, x5, x6, x7⟩
  | 3, [x0, x1, x2, x3, x4, x5, x6, x7] => (fun (a : Rg) (b : Rg) => (bmeet a b).sh) ⟨x0, x1, x2, x3⟩ ⟨x4, x5, x6, x7⟩
  | _, _ => 0
def sB_meet : Nat → List Int → Bool
  | 4, [x0, x1, x2, x3, x4, x5, x6, x7] => (fun (a : Rg) (b : Rg) => bmeets a b) ⟨x0, x1, x2, x3⟩ ⟨x4, x5, x6, x7⟩
  | _, _ => false
theorem sK_meet {sp : Spec} {key : Nat} (hI : sp.I key = sI_meet) (hB : sp.B key = sB_meet) : SmOk Try.prog sp (sM_meet key) := by
  refine SmOk.of (.inl ⟨run_enter Try.func17 (by kernel_rfl) (by kernel_rfl), fun xs vals h => ?_⟩) (.inl rfl)
  obtain ⟨_, _, _, p1, h1, rfl⟩ := shA h
  obtain ⟨_, _, _, d1_0, p1_0, rfl⟩ := cksC p1
  obtain ⟨x0, rfl, rfl, gx0⟩ := ckI d1_0
  obtain ⟨_, _, _, d1_1, p1_1, rfl⟩ := cksC p1_0
  obtain ⟨x1, rfl, rfl, gx1⟩ := ckI d1_1
  obtain ⟨_, _, _, d1_2, p1_2, rfl⟩ := cksC p1_1
  obtain ⟨x2, rfl, rfl, gx2⟩ := ckI d1_2
  obtain ⟨_, _, _, d1_3, p1_3, rfl⟩ := cksC p1_2
  obtain ⟨x3, rfl, rfl, gx3⟩ := ckI d1_3
  obtain ⟨rfl, rfl⟩ := cksN p1_3
  obtain ⟨_, _, _, p2, h2, rfl⟩ := shA h1
  obtain ⟨_, _, _, d2_0, p2_0, rfl⟩ := cksC p2
  obtain ⟨x4, rfl, rfl, gx4⟩ := ckI d2_0
  obtain ⟨_, _, _, d2_1, p2_1, rfl⟩ := cksC p2_0
  obtain ⟨x5, rfl, rfl, gx5⟩ := ckI d2_1
  obtain ⟨_, _, _, d2_2, p2_2, rfl⟩ := cksC p2_1
  obtain ⟨x6, rfl, rfl, gx6⟩ := ckI d2_2
  obtain ⟨_, _, _, d2_3, p2_3, rfl⟩ := cksC p2_2
  obtain ⟨x7, rfl, rfl, gx7⟩ := ckI d2_3
  obtain ⟨rfl, rfl⟩ := cksN p2_3
  obtain ⟨rfl, rfl⟩ := shN h2
  refine ⟨_, sX_meet ⟨x0, x1, x2, x3⟩ ⟨gx0, gx1, gx2, gx3⟩ ⟨x4, x5, x6, x7⟩ ⟨gx4, gx5, gx6, gx7⟩, fun ρ v0 he => ?_⟩
  have he' : ρ.i (v0 + 0) = sp.I key 0 [x0, x1, x2, x3, x4, x5, x6, x7] ∧ ρ.i (v0 + 1) = sp.I key 1 [x0, x1, x2, x3, x4, x5, x6, x7] ∧ ρ.i (v0 + 2) = sp.I key 2 [x0, x1, x2, x3, x4, x5, x6, x7] ∧ ρ.i (v0 + 3) = sp.I key 3 [x0, x1, x2, x3, x4, x5, x6, x7] ∧ ρ.b (v0 + 4) = sp.B key 4 [x0, x1, x2, x3, x4, x5, x6, x7] ∧ True := he
  simp only [hI, hB] at he'
  obtain ⟨e0, e1, e2, e3, e4, -⟩ := he'
  show some (.tuple #[.agg #[.int .u64 (ρ.i (v0 + 0)), .int .u64 (ρ.i (v0 + 1)), .int .i64 (ρ.i (v0 + 2)), .int .i64 (ρ.i (v0 + 3))], .bool (ρ.b (v0 + 4))] : Value) = _
  rw [e0, e1, e2, e3, e4]
  rfl
def sT_in : Tr :=
(.call 0 [.bool] (.cons (.var 0) (.cons (.var 1) (.cons (.var 2) (.cons (.var 3) .nil)))) 8
 (.br (.bvar 8)
 (.call 0 [.bool] (.cons (.var 4) (.cons (.var 5) (.cons (.var 6) (.cons (.var 7) .nil)))) 9
  (.br (.bvar 9)
  (.call 1 [.int .u64, .int .u64, .int .i64, .int .i64] (.cons (.var 0) (.cons (.var 1) (.cons (.var 2) (.cons (.var 3) (.cons (.var 4) (.cons (.var 5) (.cons (.var 6) (.cons (.var 7) .nil)))))))) 10
   (.leaf (.one (.bool (.and (.eq (.var 10) (.var 4)) (.and (.eq (.var 11) (.var 5)) (.and (.eq (.var 12) (.var 6)) (.and (.eq (.var 13) (.var 7)) (.tt true)))))))))
  (.leaf (.one (.bool (.tt false))))))
 (.leaf (.one (.bool (.tt false))))))
def sP_in : Spec := ⟨fun k => match k with | 0 => sI_may | 1 => sI_join | _ => fun _ _ => 0, fun k => match k with | 0 => sB_may | 1 => sB_join | _ => fun _ _ => false⟩
set_option maxRecDepth 100000 in
theorem sR_in : funK ⟨tys_XbB, [sM_may 0, sM_join 1]⟩ 200 Try.f30 [.agg [.int .u64 (.var 0), .int .u64 (.var 1), .int .i64 (.var 2), .int .i64 (.var 3)], .agg [.int .u64 (.var 4), .int .u64 (.var 5), .int .i64 (.var 6), .int .i64 (.var 7)]] ⟨[], [], [some .u64, some .u64, some .i64, some .i64, some .u64, some .u64, some .i64, some .i64]⟩ = sT_in := by kernel_rfl
set_option maxRecDepth 100000 in
set_option maxHeartbeats 8000000 in
theorem sX_in (a : Rg) (ha : Rg.ok a) (b : Rg) (hb : Rg.ok b) : (∀ w, Calls Try.prog 30 #[.agg #[.int .u64 a.ul, .int .u64 a.uh, .int .i64 a.sl, .int .i64 a.sh], .agg #[.int .u64 b.ul, .int .u64 b.uh, .int .i64 b.sl, .int .i64 b.sh]] w fun e w' => e = .returned (.bool (bin a b)) ∧ Ext w w') ∧ valIn (.bool (bin a b)) = true := by
  refine fun_calls (cx := ⟨tys_XbB, [sM_may 0, sM_join 1]⟩) (sp := sP_in) (t := sT_in) (by kernel_rfl) tysok_XbB (List.forall_mem_cons.2 ⟨sK_may rfl rfl, List.forall_mem_cons.2 ⟨sK_join rfl rfl, fun _ h => (by cases h)⟩⟩) (keys_of (by kernel_rfl)) Try.func30 ⟨fun n => ([a.ul, a.uh, a.sl, a.sh, b.ul, b.uh, b.sl, b.sh] : List Int).getD n 0, fun n => ([false, false, false, false, false, false, false, false] : List Bool).getD n false⟩ sR_in (by kernel_rfl) ?_ rfl (by intro p hp; cases hp) ?_ ?_
  · intro n k hk
    have hlt : n < 8 := by
      rcases Nat.lt_or_ge n 8 with h | h
      · exact h
      · rw [List.getElem?_eq_none h] at hk; cases hk
    rcases (show n = 0 ∨ n = 1 ∨ n = 2 ∨ n = 3 ∨ n = 4 ∨ n = 5 ∨ n = 6 ∨ n = 7 by omega) with rfl | rfl | rfl | rfl | rfl | rfl | rfl | rfl
    · cases hk; exact ha.1
    · cases hk; exact ha.2.1
    · cases hk; exact ha.2.2.1
    · cases hk; exact ha.2.2.2
    · cases hk; exact hb.1
    · cases hk; exact hb.2.1
    · cases hk; exact hb.2.2.1
    · cases hk; exact hb.2.2.2
  · intro ρ hag
    have g0 : ρ.i 0 = a.ul := (hag 0 (by decide)).1.symm
    have g1 : ρ.i 1 = a.uh := (hag 1 (by decide)).1.symm
    have g2 : ρ.i 2 = a.sl := (hag 2 (by decide)).1.symm
    have g3 : ρ.i 3 = a.sh := (hag 3 (by decide)).1.symm
    have g4 : ρ.i 4 = b.ul := (hag 4 (by decide)).1.symm
    have g5 : ρ.i 5 = b.uh := (hag 5 (by decide)).1.symm
    have g6 : ρ.i 6 = b.sl := (hag 6 (by decide)).1.symm
    have g7 : ρ.i 7 = b.sh := (hag 7 (by decide)).1.symm
    show some ([.agg #[.int .u64 (ρ.i 0), .int .u64 (ρ.i 1), .int .i64 (ρ.i 2), .int .i64 (ρ.i 3)], .agg #[.int .u64 (ρ.i 4), .int .u64 (ρ.i 5), .int .i64 (ρ.i 6), .int .i64 (ρ.i 7)]] : List Value) = _
    rw [g0, g1, g2, g3, g4, g5, g6, g7]
  · intro ρ hag
    have g0 : ρ.i 0 = a.ul := (hag 0 (by decide)).1.symm
    have g1 : ρ.i 1 = a.uh := (hag 1 (by decide)).1.symm
    have g2 : ρ.i 2 = a.sl := (hag 2 (by decide)).1.symm
    have g3 : ρ.i 3 = a.sh := (hag 3 (by decide)).1.symm
    have g4 : ρ.i 4 = b.ul := (hag 4 (by decide)).1.symm
    have g5 : ρ.i 5 = b.uh := (hag 5 (by decide)).1.symm
    have g6 : ρ.i 6 = b.sl := (hag 6 (by decide)).1.symm
    have g7 : ρ.i 7 = b.sh := (hag 7 (by decide)).1.symm
    simp only [sT_in, Tr.asks, eqs, E.I, E.B, E.L, V.den, C.den, denL, den0, den0L, Option.map_some, Nat.add_zero, Nat.reduceAdd, and_true, Rg.eta, g0, g1, g2, g3, g4, g5, g6, g7]
    simp only [sP_in, b01, Pi.eta, Pu.eta, Rg.eta, sI_may, sB_may, sI_join, sB_join]
    intro e8
    (try simp only [e8, Pi.eta, Pu.eta, Rg.eta])
    (try clear e8)
    refine ⟨fun c0 => ?_, fun c0 => ?_⟩
    · skip
      intro e9
      (try simp only [e9, Pi.eta, Pu.eta, Rg.eta])
      (try clear e9)
      refine ⟨fun c1 => ?_, fun c1 => ?_⟩
      · skip
        rintro ⟨e10, e11, e12, e13⟩
        (try simp only [e10, e11, e12, e13, Pi.eta, Pu.eta, Rg.eta])
        (try clear e10 e11 e12 e13)
        all_goals
          refine congrArg some ?_
          (unfold bin; simp_all [Rg.ext_iff]; try (rw [Bool.eq_iff_iff]; simp))
      · skip
        all_goals
          refine congrArg some ?_
          (unfold bin; simp_all [Rg.ext_iff]; try (rw [Bool.eq_iff_iff]; simp))
    · skip
      all_goals
        refine congrArg some ?_
        (unfold bin; simp_all [Rg.ext_iff]; try (rw [Bool.eq_iff_iff]; simp))
def sM_in (key : Nat) : Sm := ⟨30, key, [(true, [.int .u64, .int .u64, .int .i64, .int .i64]), (true, [.int .u64, .int .u64, .int .i64, .int .i64])], [(false, [.bool])], false⟩
def sI_in : Nat → List Int → Int
  | _, _ => 0
def sB_in : Nat → List Int → Bool
  | 0, [x0, x1, x2, x3, x4, x5, x6, x7] => (fun (a : Rg) (b : Rg) => bin a b) ⟨x0, x1, x2, x3⟩ ⟨x4, x5, x6, x7⟩
  | _, _ => false
theorem sK_in {sp : Spec} {key : Nat} (hI : sp.I key = sI_in) (hB : sp.B key = sB_in) : SmOk Try.prog sp (sM_in key) := by
  refine SmOk.of (.inl ⟨run_enter Try.func30 (by kernel_rfl) (by kernel_rfl), fun xs vals h => ?_⟩) (.inr (.inr ⟨_, rfl⟩))
  obtain ⟨_, _, _, p1, h1, rfl⟩ := shA h
  obtain ⟨_, _, _, d1_0, p1_0, rfl⟩ := cksC p1
  obtain ⟨x0, rfl, rfl, gx0⟩ := ckI d1_0
  obtain ⟨_, _, _, d1_1, p1_1, rfl⟩ := cksC p1_0
  obtain ⟨x1, rfl, rfl, gx1⟩ := ckI d1_1
  obtain ⟨_, _, _, d1_2, p1_2, rfl⟩ := cksC p1_1
  obtain ⟨x2, rfl, rfl, gx2⟩ := ckI d1_2
  obtain ⟨_, _, _, d1_3, p1_3, rfl⟩ := cksC p1_2
  obtain ⟨x3, rfl, rfl, gx3⟩ := ckI d1_3
  obtain ⟨rfl, rfl⟩ := cksN p1_3
  obtain ⟨_, _, _, p2, h2, rfl⟩ := shA h1
  obtain ⟨_, _, _, d2_0, p2_0, rfl⟩ := cksC p2
  obtain ⟨x4, rfl, rfl, gx4⟩ := ckI d2_0
  obtain ⟨_, _, _, d2_1, p2_1, rfl⟩ := cksC p2_0
  obtain ⟨x5, rfl, rfl, gx5⟩ := ckI d2_1
  obtain ⟨_, _, _, d2_2, p2_2, rfl⟩ := cksC p2_1
  obtain ⟨x6, rfl, rfl, gx6⟩ := ckI d2_2
  obtain ⟨_, _, _, d2_3, p2_3, rfl⟩ := cksC p2_2
  obtain ⟨x7, rfl, rfl, gx7⟩ := ckI d2_3
  obtain ⟨rfl, rfl⟩ := cksN p2_3
  obtain ⟨rfl, rfl⟩ := shN h2
  refine ⟨_, sX_in ⟨x0, x1, x2, x3⟩ ⟨gx0, gx1, gx2, gx3⟩ ⟨x4, x5, x6, x7⟩ ⟨gx4, gx5, gx6, gx7⟩, fun ρ v0 he => ?_⟩
  have he' : ρ.b (v0 + 0) = sp.B key 0 [x0, x1, x2, x3, x4, x5, x6, x7] ∧ True := he
  simp only [hI, hB] at he'
  obtain ⟨e0, -⟩ := he'
  show some (.bool (ρ.b (v0 + 0)) : Value) = _
  rw [e0]
  rfl
def sT_low : Tr :=
(.call 0 [.bool] (.cons (.var 0) (.cons (.var 1) (.cons (.var 2) (.cons (.var 3) .nil)))) 4
 (.br (.bvar 4)
 (.br (.lt (.lit 4294967295) (.var 1))
  (.call 1 [.int .u64, .int .u64, .int .i64, .int .i64] .nil 5
   (.call 2 [.int .u64, .int .u64, .int .i64, .int .i64] (.cons (.var 5) (.cons (.lit 4294967295) (.cons (.var 7) (.cons (.var 8) .nil)))) 9
   (.leaf (.agg [.int .u64 (.var 9), .int .u64 (.var 10), .int .i64 (.var 11), .int .i64 (.var 12)]))))
  (.leaf (.agg [.int .u64 (.var 0), .int .u64 (.var 1), .int .i64 (.var 2), .int .i64 (.var 3)])))
 (.call 1 [.int .u64, .int .u64, .int .i64, .int .i64] .nil 5
  (.call 2 [.int .u64, .int .u64, .int .i64, .int .i64] (.cons (.var 5) (.cons (.lit 4294967295) (.cons (.var 7) (.cons (.var 8) .nil)))) 9
  (.leaf (.agg [.int .u64 (.var 9), .int .u64 (.var 10), .int .i64 (.var 11), .int .i64 (.var 12)]))))))
def sP_low : Spec := ⟨fun k => match k with | 0 => sI_may | 1 => sI_all | 2 => sI_nard | _ => fun _ _ => 0, fun k => match k with | 0 => sB_may | 1 => sB_all | 2 => sB_nard | _ => fun _ _ => false⟩
set_option maxRecDepth 100000 in
theorem sR_low : funK ⟨tys_XbB, [sM_may 0, sM_all 1, sM_nard 2]⟩ 200 Try.f34 [.agg [.int .u64 (.var 0), .int .u64 (.var 1), .int .i64 (.var 2), .int .i64 (.var 3)]] ⟨[], [], [some .u64, some .u64, some .i64, some .i64]⟩ = sT_low := by kernel_rfl
set_option maxRecDepth 100000 in
set_option maxHeartbeats 8000000 in
theorem sX_low (a : Rg) (ha : Rg.ok a) : (∀ w, Calls Try.prog 34 #[.agg #[.int .u64 a.ul, .int .u64 a.uh, .int .i64 a.sl, .int .i64 a.sh]] w fun e w' => e = .returned (.agg #[.int .u64 (blow a).ul, .int .u64 (blow a).uh, .int .i64 (blow a).sl, .int .i64 (blow a).sh]) ∧ Ext w w') ∧ valIn (.agg #[.int .u64 (blow a).ul, .int .u64 (blow a).uh, .int .i64 (blow a).sl, .int .i64 (blow a).sh]) = true := by
  refine fun_calls (cx := ⟨tys_XbB, [sM_may 0, sM_all 1, sM_nard 2]⟩) (sp := sP_low) (t := sT_low) (by kernel_rfl) tysok_XbB (List.forall_mem_cons.2 ⟨sK_may rfl rfl, List.forall_mem_cons.2 ⟨sK_all rfl rfl, List.forall_mem_cons.2 ⟨sK_nard rfl rfl, fun _ h => (by cases h)⟩⟩⟩) (keys_of (by kernel_rfl)) Try.func34 ⟨fun n => ([a.ul, a.uh, a.sl, a.sh] : List Int).getD n 0, fun n => ([false, false, false, false] : List Bool).getD n false⟩ sR_low (by kernel_rfl) ?_ rfl (by intro p hp; cases hp) ?_ ?_
  · intro n k hk
    have hlt : n < 4 := by
      rcases Nat.lt_or_ge n 4 with h | h
      · exact h
      · rw [List.getElem?_eq_none h] at hk; cases hk
    rcases (show n = 0 ∨ n = 1 ∨ n = 2 ∨ n = 3 by omega) with rfl | rfl | rfl | rfl
    · cases hk; exact ha.1
    · cases hk; exact ha.2.1
    · cases hk; exact ha.2.2.1
    · cases hk; exact ha.2.2.2
  · intro ρ hag
    have g0 : ρ.i 0 = a.ul := (hag 0 (by decide)).1.symm
    have g1 : ρ.i 1 = a.uh := (hag 1 (by decide)).1.symm
    have g2 : ρ.i 2 = a.sl := (hag 2 (by decide)).1.symm
    have g3 : ρ.i 3 = a.sh := (hag 3 (by decide)).1.symm
    show some ([.agg #[.int .u64 (ρ.i 0), .int .u64 (ρ.i 1), .int .i64 (ρ.i 2), .int .i64 (ρ.i 3)]] : List Value) = _
    rw [g0, g1, g2, g3]
  · intro ρ hag
    have g0 : ρ.i 0 = a.ul := (hag 0 (by decide)).1.symm
    have g1 : ρ.i 1 = a.uh := (hag 1 (by decide)).1.symm
    have g2 : ρ.i 2 = a.sl := (hag 2 (by decide)).1.symm
    have g3 : ρ.i 3 = a.sh := (hag 3 (by decide)).1.symm
    simp only [sT_low, Tr.asks, eqs, E.I, E.B, E.L, V.den, C.den, denL, den0, den0L, Option.map_some, Nat.add_zero, Nat.reduceAdd, and_true, Rg.eta, g0, g1, g2, g3]
    simp only [sP_low, b01, Pi.eta, Pu.eta, Rg.eta, sI_may, sB_may, sI_all, sB_all, sI_nard, sB_nard]
    intro e4
    (try simp only [e4, Pi.eta, Pu.eta, Rg.eta])
    (try clear e4)
    refine ⟨fun c0 => ?_, fun c0 => ?_⟩
    · skip
      refine ⟨fun c1 => ?_, fun c1 => ?_⟩
      · skip
        rintro ⟨e5, e6, e7, e8⟩
        (try simp only [e5, e6, e7, e8, Pi.eta, Pu.eta, Rg.eta])
        (try clear e5 e6 e7 e8)
        rintro ⟨e9, e10, e11, e12⟩
        (try simp only [e9, e10, e11, e12, Pi.eta, Pu.eta, Rg.eta])
        (try clear e9 e10 e11 e12)
        all_goals
          refine congrArg some ?_
          (rw [show blow a = bnar (bu 0 4294967295) from if_neg (fun q => absurd (of_decide_eq_true c1) (Int.not_lt.2 q.2))]; try rfl)
      · skip
        all_goals
          refine congrArg some ?_
          (rw [show blow a = a from if_pos ⟨c0, Int.not_lt.1 (of_decide_eq_false c1)⟩]; try rfl)
    · skip
      rintro ⟨e5, e6, e7, e8⟩
      (try simp only [e5, e6, e7, e8, Pi.eta, Pu.eta, Rg.eta])
      (try clear e5 e6 e7 e8)
      rintro ⟨e9, e10, e11, e12⟩
      (try simp only [e9, e10, e11, e12, Pi.eta, Pu.eta, Rg.eta])
      (try clear e9 e10 e11 e12)
      all_goals
        refine congrArg some ?_
        (rw [show blow a = bnar (bu 0 4294967295) from if_neg (fun q => by rw [c0] at q; exact absurd q.1 (by simp))]; try rfl)
def sM_low (key : Nat) : Sm := ⟨34, key, [(true, [.int .u64, .int .u64, .int .i64, .int .i64])], [(true, [.int .u64, .int .u64, .int .i64, .int .i64])], false⟩
def sI_low : Nat → List Int → Int
  | 0, [x0, x1, x2, x3] => (fun (a : Rg) => (blow a).ul) ⟨x0, x1, x2, x3⟩
  | 1, [x0, x1, x2, x3] => (fun (a : Rg) => (blow a).uh) ⟨x0, x1, x2, x3⟩
  | 2, [x0, x1, x2, x3] => (fun (a : Rg) => (blow a).sl) ⟨x0, x1, x2, x3⟩
  | 3, [x0, x1, x2, x3] => (fun (a : Rg) => (blow a).sh) ⟨x0, x1, x2, x3⟩
  | _, _ => 0
def sB_low : Nat → List Int → Bool
  | _, _ => false
theorem sK_low {sp : Spec} {key : Nat} (hI : sp.I key = sI_low) (hB : sp.B key = sB_low) : SmOk Try.prog sp (sM_low key) := by
  refine SmOk.of (.inl ⟨run_enter Try.func34 (by kernel_rfl) (by kernel_rfl), fun xs vals h => ?_⟩) (.inr (.inl ⟨_, rfl⟩))
  obtain ⟨_, _, _, p1, h1, rfl⟩ := shA h
  obtain ⟨_, _, _, d1_0, p1_0, rfl⟩ := cksC p1
  obtain ⟨x0, rfl, rfl, gx0⟩ := ckI d1_0
  obtain ⟨_, _, _, d1_1, p1_1, rfl⟩ := cksC p1_0
  obtain ⟨x1, rfl, rfl, gx1⟩ := ckI d1_1
  obtain ⟨_, _, _, d1_2, p1_2, rfl⟩ := cksC p1_1
  obtain ⟨x2, rfl, rfl, gx2⟩ := ckI d1_2
  obtain ⟨_, _, _, d1_3, p1_3, rfl⟩ := cksC p1_2
  obtain ⟨x3, rfl, rfl, gx3⟩ := ckI d1_3
  obtain ⟨rfl, rfl⟩ := cksN p1_3
  obtain ⟨rfl, rfl⟩ := shN h1
  refine ⟨_, sX_low ⟨x0, x1, x2, x3⟩ ⟨gx0, gx1, gx2, gx3⟩, fun ρ v0 he => ?_⟩
  have he' : ρ.i (v0 + 0) = sp.I key 0 [x0, x1, x2, x3] ∧ ρ.i (v0 + 1) = sp.I key 1 [x0, x1, x2, x3] ∧ ρ.i (v0 + 2) = sp.I key 2 [x0, x1, x2, x3] ∧ ρ.i (v0 + 3) = sp.I key 3 [x0, x1, x2, x3] ∧ True := he
  simp only [hI, hB] at he'
  obtain ⟨e0, e1, e2, e3, -⟩ := he'
  show some (.agg #[.int .u64 (ρ.i (v0 + 0)), .int .u64 (ρ.i (v0 + 1)), .int .i64 (ρ.i (v0 + 2)), .int .i64 (ρ.i (v0 + 3))] : Value) = _
  rw [e0, e1, e2, e3]
  rfl
end Go.Proofs.Ytcngfmhhaleoaaa

/- What Do of package bounds comes to, operation by operation, as its run has it: plain laws. -/
set_option linter.unusedSectionVars false
set_option linter.unusedVariables false
set_option linter.unusedSimpArgs false
namespace Go.Proofs.Ytcngfmhhaleoaaa
open Go Go.RowKit
theorem agg4 {x0 x1 x2 x3 y0 y1 y2 y3 : Int} (h0 : x0 = y0) (h1 : x1 = y1) (h2 : x2 = y2) (h3 : x3 = y3) : Value.agg #[.int .u64 x0, .int .u64 x1, .int .i64 x2, .int .i64 x3] = Value.agg #[.int .u64 y0, .int .u64 y1, .int .i64 y2, .int .i64 y3] := by rw [h0, h1, h2, h3]
theorem agg_Rg {r s : Rg} (h : r = s) : Value.agg #[.int .u64 r.ul, .int .u64 r.uh, .int .i64 r.sl, .int .i64 r.sh] = Value.agg #[.int .u64 s.ul, .int .u64 s.uh, .int .i64 s.sl, .int .i64 s.sh] := by rw [h]
def xsum (t : Bool) (a b : Rg) : Rg :=
  match t with
  | false => ⟨if a.uh + b.uh ≤ 18446744073709551615 then IntKind.u64.wrap (a.ul + b.ul) else 0, if a.uh + b.uh ≤ 18446744073709551615 then a.uh + b.uh else 18446744073709551615, (bsum a b).sl, (bsum a b).sh⟩
  | true => ⟨if b.uh ≤ a.ul then IntKind.u64.wrap (a.ul - b.uh) else 0, if b.uh ≤ a.ul then IntKind.u64.wrap (a.uh - b.ul) else 18446744073709551615, (bdif a b).sl, (bdif a b).sh⟩
section
variable {a b : Rg} (ha : a.ok) (hb : b.ok)
theorem sum_s1 (h1 : decide (-9223372036854775808 ≤ a.sl + b.sl ∧ a.sl + b.sl ≤ 9223372036854775807) = true) (h2 : decide (-9223372036854775808 ≤ a.sh + b.sh ∧ a.sh + b.sh ≤ 9223372036854775807) = true) :
    IntKind.i64.wrap (a.sl + b.sl) = (xsum false a b).sl ∧ IntKind.i64.wrap (a.sh + b.sh) = (xsum false a b).sh := by
  have h1 := of_decide_eq_true h1; have h2 := of_decide_eq_true h2
  simp only [xsum, bsum]
  rw [if_pos ⟨h1, h2⟩, if_pos ⟨h1, h2⟩, w_i64, w_i64]
  omega
theorem sum_s0 (h : decide (-9223372036854775808 ≤ a.sl + b.sl ∧ a.sl + b.sl ≤ 9223372036854775807) = false ∨ decide (-9223372036854775808 ≤ a.sh + b.sh ∧ a.sh + b.sh ≤ 9223372036854775807) = false) :
    ball.sl = (xsum false a b).sl ∧ ball.sh = (xsum false a b).sh := by
  have hn : ¬ ((-9223372036854775808 ≤ a.sl + b.sl ∧ a.sl + b.sl ≤ 9223372036854775807) ∧ (-9223372036854775808 ≤ a.sh + b.sh ∧ a.sh + b.sh ≤ 9223372036854775807)) := fun q => by
    rcases h with h | h
    · exact of_decide_eq_false h q.1
    · exact of_decide_eq_false h q.2
  simp only [xsum, bsum]
  rw [if_neg hn, if_neg hn]
  exact ⟨rfl, rfl⟩
theorem dif_s1 (h1 : decide (-9223372036854775808 ≤ a.sl - b.sh ∧ a.sl - b.sh ≤ 9223372036854775807) = true) (h2 : decide (-9223372036854775808 ≤ a.sh - b.sl ∧ a.sh - b.sl ≤ 9223372036854775807) = true) :
    IntKind.i64.wrap (a.sl - b.sh) = (xsum true a b).sl ∧ IntKind.i64.wrap (a.sh - b.sl) = (xsum true a b).sh := by
  have h1 := of_decide_eq_true h1; have h2 := of_decide_eq_true h2
  simp only [xsum, bdif]
  rw [if_pos ⟨h1, h2⟩, if_pos ⟨h1, h2⟩, w_i64, w_i64]
  omega
theorem dif_s0 (h : decide (-9223372036854775808 ≤ a.sl - b.sh ∧ a.sl - b.sh ≤ 9223372036854775807) = false ∨ decide (-9223372036854775808 ≤ a.sh - b.sl ∧ a.sh - b.sl ≤ 9223372036854775807) = false) :
    ball.sl = (xsum true a b).sl ∧ ball.sh = (xsum true a b).sh := by
  have hn : ¬ ((-9223372036854775808 ≤ a.sl - b.sh ∧ a.sl - b.sh ≤ 9223372036854775807) ∧ (-9223372036854775808 ≤ a.sh - b.sl ∧ a.sh - b.sl ≤ 9223372036854775807)) := fun q => by
    rcases h with h | h
    · exact of_decide_eq_false h q.1
    · exact of_decide_eq_false h q.2
  simp only [xsum, bdif]
  rw [if_neg hn, if_neg hn]
  exact ⟨rfl, rfl⟩
include ha hb
theorem sum_u1 (h : ((a.uh + b.uh) / 18446744073709551616 == 0) = true) : opI .add .u64 a.ul b.ul = (xsum false a b).ul ∧ (a.uh + b.uh) % 18446744073709551616 = (xsum false a b).uh := by
  have h := beq_iff_eq.1 h
  have wa := (Rg.wf_of ha).2.1; have wb := (Rg.wf_of hb).2.1
  have hc : a.uh + b.uh ≤ 18446744073709551615 := by omega
  simp only [xsum]
  rw [if_pos hc, if_pos hc]
  exact ⟨rfl, by omega⟩
theorem sum_u0 (h : ((a.uh + b.uh) / 18446744073709551616 == 0) = false) : ball.ul = (xsum false a b).ul ∧ ball.uh = (xsum false a b).uh := by
  have h := beq_eq_false_iff_ne.1 h
  have wa := (Rg.wf_of ha).2.1; have wb := (Rg.wf_of hb).2.1
  have hc : ¬ a.uh + b.uh ≤ 18446744073709551615 := by omega
  simp only [xsum]
  rw [if_neg hc, if_neg hc]
  exact ⟨rfl, rfl⟩
omit ha hb
theorem dif_u1 (h : decide (a.ul < b.uh) = false) : opI .sub .u64 a.ul b.uh = (xsum true a b).ul ∧ opI .sub .u64 a.uh b.ul = (xsum true a b).uh := by
  have hc : b.uh ≤ a.ul := Int.not_lt.1 (of_decide_eq_false h)
  simp only [xsum]
  rw [if_pos hc, if_pos hc]
  exact ⟨rfl, rfl⟩
theorem dif_u0 (h : decide (a.ul < b.uh) = true) : ball.ul = (xsum true a b).ul ∧ ball.uh = (xsum true a b).uh := by
  have hc : ¬ b.uh ≤ a.ul := Int.not_le.2 (of_decide_eq_true h)
  simp only [xsum]
  rw [if_neg hc, if_neg hc]
  exact ⟨rfl, rfl⟩
end
theorem bdo_of {op : Int} {a b : Rg} (ma : bmay a = true) (mb : bmay b = true) {X : Rg} (h : X = bdo0 op a b) : bnar X = bdo op a b := by
  unfold bdo; rw [if_pos ⟨ma, mb⟩, h]
theorem xsum_f {a b : Rg} (ha : a.ok) (hb : b.ok) (ma : bmay a = true) (mb : bmay b = true) : xsum false a b = bsum a b := by
  have wa := Rg.wf_of ha; have wb := Rg.wf_of hb
  rw [bmay_iff] at ma mb
  obtain ⟨⟨a0, a1⟩, ⟨a2, a3⟩, _⟩ := wa
  obtain ⟨⟨b0, b1⟩, ⟨b2, b3⟩, _⟩ := wb
  rw [Rg.ext_iff]
  refine ⟨?_, rfl, rfl, rfl⟩
  simp only [xsum, bsum]
  split
  · rw [w_u64]; omega
  · rfl
theorem xsum_t {a b : Rg} (ha : a.ok) (hb : b.ok) (ma : bmay a = true) (mb : bmay b = true) : xsum true a b = bdif a b := by
  have wa := Rg.wf_of ha; have wb := Rg.wf_of hb
  rw [bmay_iff] at ma mb
  obtain ⟨⟨a0, a1⟩, ⟨a2, a3⟩, _⟩ := wa
  obtain ⟨⟨b0, b1⟩, ⟨b2, b3⟩, _⟩ := wb
  rw [Rg.ext_iff]
  refine ⟨?_, ?_, rfl, rfl⟩ <;> simp only [xsum, bdif] <;> split
  · rw [w_u64]; omega
  · rfl
  · rw [w_u64]; omega
  · rfl
theorem eqz {x z : Int} (h : (x == z) = true) : x = z := by simpa using h
theorem nez {x z : Int} (h : (x == z) = false) : x ≠ z := by simpa using h
theorem fill_eq {m : Int} (h0 : 0 ≤ m) (h1 : m ≤ 18446744073709551615) : opI .sub .u64 (opI .shl .u64 1 (blenN m.toNat)) 1 = bfill m := by
  have hb : blenN m.toNat ≤ 64 := blen_le (by omega)
  have h2 := bfill_bd h1
  unfold bfill at h2 ⊢
  show IntKind.u64.wrap (IntKind.u64.wrap (1 * 2 ^ min ((blenN m.toNat : Int).toNat) 64) - 1) = _
  rw [Int.toNat_natCast, Nat.min_eq_left hb, Int.one_mul]
  generalize (2 : Int) ^ blenN m.toNat = t at *
  rw [w_u64, w_u64]
  omega
theorem opI_quo {x y : Int} (x0 : 0 ≤ x) (x1 : x ≤ 18446744073709551615) (y0 : 0 < y) : opI .quo .u64 x y = x / y := by
  show IntKind.u64.wrap (x.tdiv y) = _
  rw [Int.tdiv_eq_ediv_of_nonneg x0, w_u64]
  have := div_bd (z := y) x0 x1 y0
  omega
theorem by_eq {b : Rg} (hb : b.ok) (h : bones b = true) : opI .and .u64 (bsingle b) 63 = ((bby b : Nat) : Int) ∧ bby b < 64 := by
  have wb := Rg.wf_of hb
  have e : bsingle b = b.ul := by unfold bsingle; rw [h]; simp
  show bits .and .u64 (bsingle b) 63 = _ ∧ _
  rw [e, and63 _ wb.1.1 wb.1.2]
  unfold bby
  omega
theorem opI_shr {x : Int} {k : Nat} (x0 : 0 ≤ x) (hk : k < 64) : opI .shr .u64 x (k : Int) = x / 2 ^ k := by
  show x.fdiv (2 ^ min (k : Int).toNat 64) = _
  rw [Int.toNat_natCast, Nat.min_eq_left (by omega), Int.fdiv_eq_ediv_of_nonneg _ (Int.le_of_lt (Int.pow_pos (by omega)))]
theorem opI_shl {x : Int} {k : Nat} (hk : k < 64) (h : 0 ≤ x * 2 ^ k) (h' : x * 2 ^ k ≤ 18446744073709551615) : opI .shl .u64 x (k : Int) = x * 2 ^ k := by
  show IntKind.u64.wrap (x * 2 ^ min (k : Int).toNat 64) = _
  rw [Int.toNat_natCast, Nat.min_eq_left (by omega), w_u64]
  omega
section
variable {op : Int} {a b : Rg} (ha : a.ok) (hb : b.ok) (ma : bmay a = true) (mb : bmay b = true)
include ha hb ma mb
theorem dq_11 (h : (op == 11) = true) : bnar b = bdo op a b := bdo_of ma mb (by rw [eqz h]; simp [bdo0])
theorem dq_0 (h : (op == 0) = true) : bnar (xsum (op == 1) a b) = bdo op a b := bdo_of ma mb (by rw [eqz h]; rw [show ((0 : Int) == 1) = false from rfl, xsum_f ha hb ma mb]; simp [bdo0])
theorem dq_1 (h : (op == 1) = true) : bnar (xsum (op == 1) a b) = bdo op a b := bdo_of ma mb (by rw [h, eqz h, xsum_t ha hb ma mb]; simp [bdo0])
theorem dq_5 (h : (op == 5) = true) : bnar ⟨ball.ul, min a.uh b.uh, ball.sl, ball.sh⟩ = bdo op a b := bdo_of ma mb (by rw [eqz h]; simp [bdo0, bu, ball])
theorem mx_bd : 0 ≤ max a.uh b.uh ∧ max a.uh b.uh ≤ 18446744073709551615 := by
  have wa := Rg.wf_of ha; have wb := Rg.wf_of hb
  have := wa.2.1; have := wb.2.1
  omega
theorem dq_4 (h : (op == 4) = true) : bnar ⟨max a.ul b.ul, opI .sub .u64 (opI .shl .u64 1 (blenN (max a.uh b.uh).toNat)) 1, ball.sl, ball.sh⟩ = bdo op a b := bdo_of ma mb (by
  have := mx_bd ha hb ma mb
  rw [eqz h, fill_eq this.1 this.2]; simp [bdo0, bu, ball])
theorem dq_10 (h : (op == 10) = true) : bnar ⟨ball.ul, opI .sub .u64 (opI .shl .u64 1 (blenN (max a.uh b.uh).toNat)) 1, ball.sl, ball.sh⟩ = bdo op a b := bdo_of ma mb (by
  have := mx_bd ha hb ma mb
  rw [eqz h, fill_eq this.1 this.2]; simp [bdo0, bu, ball])
theorem dq_3 (h : (op == 3) = true) (hc : decide (0 < b.ul) = true) : bnar ⟨opI .quo .u64 a.ul b.uh, opI .quo .u64 a.uh b.ul, ball.sl, ball.sh⟩ = bdo op a b := bdo_of ma mb (by
  have hc := of_decide_eq_true hc
  have wa := Rg.wf_of ha
  rw [bmay_iff] at mb
  rw [eqz h, opI_quo wa.1.1 wa.1.2 (by omega), opI_quo wa.2.1.1 wa.2.1.2 hc]; simp [bdo0, bu, ball, hc])
theorem dq_3n (h : (op == 3) = true) (hc : decide (0 < b.ul) = false) : bnar ⟨ball.ul, a.uh, ball.sl, ball.sh⟩ = bdo op a b := bdo_of ma mb (by
  have hc := of_decide_eq_false hc
  rw [eqz h]; simp [bdo0, bu, ball, hc])
theorem dq_9 (h : (op == 9) = true) (hc : decide (0 < b.ul) = true) : bnar ⟨ball.ul, min a.uh (opI .sub .u64 b.uh 1), ball.sl, ball.sh⟩ = bdo op a b := bdo_of ma mb (by
  have hc := of_decide_eq_true hc
  have wb := Rg.wf_of hb
  rw [bmay_iff] at mb
  rw [eqz h, show opI .sub .u64 b.uh 1 = b.uh - 1 from by show IntKind.u64.wrap (b.uh - 1) = _; rw [w_u64]; have := wb.2.1; omega]; simp [bdo0, bu, ball, hc])
theorem dq_9n (h : (op == 9) = true) (hc : decide (0 < b.ul) = false) : bnar ⟨ball.ul, a.uh, ball.sl, ball.sh⟩ = bdo op a b := bdo_of ma mb (by
  have hc := of_decide_eq_false hc
  rw [eqz h]; simp [bdo0, bu, ball, hc])
theorem dq_7 (h : (op == 7) = true) (hc : bones b = true) : bnar ⟨opI .shr .u64 a.ul (opI .and .u64 (bsingle b) 63), opI .shr .u64 a.uh (opI .and .u64 (bsingle b) 63), ball.sl, ball.sh⟩ = bdo op a b := bdo_of ma mb (by
  have wa := Rg.wf_of ha
  obtain ⟨e, e2⟩ := by_eq hb hc
  rw [eqz h, e, opI_shr wa.1.1 e2, opI_shr wa.2.1.1 e2]; simp [bdo0, bu, ball, hc])
theorem dq_7n (h : (op == 7) = true) (hc : bones b = false) : bnar ball = bdo op a b := bdo_of ma mb (by
  rw [eqz h]; simp [bdo0, hc])
theorem lz_c (hc : bones b = true) : decide (64 - (blenN a.uh.toNat : Int) < IntKind.i64.wrap (opI .and .u64 (bsingle b) 63)) = !decide (blenN a.uh.toNat + bby b ≤ 64) := by
  obtain ⟨e, e2⟩ := by_eq hb hc
  rw [e, w_i64]
  rw [Bool.eq_iff_iff]
  simp
  omega
theorem dq_6 (h : (op == 6) = true) (hc : bones b = true) (hl : decide (64 - (blenN a.uh.toNat : Int) < IntKind.i64.wrap (opI .and .u64 (bsingle b) 63)) = false) : bnar ⟨opI .shl .u64 a.ul (opI .and .u64 (bsingle b) 63), opI .shl .u64 a.uh (opI .and .u64 (bsingle b) 63), ball.sl, ball.sh⟩ = bdo op a b := bdo_of ma mb (by
  have wa := Rg.wf_of ha
  rw [lz_c ha hb ma mb hc] at hl
  have hl' : blenN a.uh.toNat + bby b ≤ 64 := by simpa using hl
  obtain ⟨e, e2⟩ := by_eq hb hc
  rw [bmay_iff] at ma
  obtain ⟨h1, h2, h3⟩ := shl_bd wa.1.1 ma.1 hl'
  rw [eqz h, e, opI_shl e2 h1 (by omega), opI_shl e2 (by omega) h3]; simp [bdo0, bu, ball, hc, hl'])
theorem dq_6n (h : (op == 6) = true) (hc : bones b = true) (hl : decide (64 - (blenN a.uh.toNat : Int) < IntKind.i64.wrap (opI .and .u64 (bsingle b) 63)) = true) : bnar ball = bdo op a b := bdo_of ma mb (by
  rw [lz_c ha hb ma mb hc] at hl
  have hl' : ¬ blenN a.uh.toNat + bby b ≤ 64 := by simpa using hl
  rw [eqz h]; simp [bdo0, hc, hl'])
theorem dq_6m (h : (op == 6) = true) (hc : bones b = false) : bnar ball = bdo op a b := bdo_of ma mb (by
  rw [eqz h]; simp [bdo0, hc])
theorem dq_x (h11 : (op == 11) = false) (h0 : (op == 0) = false) (h1 : (op == 1) = false) (h5 : (op == 5) = false) (h4 : (op == 4) = false) (h10 : (op == 10) = false) (h3 : (op == 3) = false) (h9 : (op == 9) = false) (h7 : (op == 7) = false) (h6 : (op == 6) = false) : bnar ball = bdo op a b := bdo_of ma mb (by
  unfold bdo0
  rw [if_neg (nez h11), if_neg (nez h0), if_neg (nez h1), if_neg (nez h5), if_neg (nez h4), if_neg (nez h10), if_neg (nez h3), if_neg (nez h9), if_neg (nez h7), if_neg (nez h6)])
end
theorem dq_bad {op : Int} {a b : Rg} (h : bmay a = false ∨ bmay b = false) : ball = bdo op a b := by
  unfold bdo
  rw [if_neg (fun e => by rcases h with h | h <;> simp [h] at e)]
theorem tup_Rg {r s : Rg} {t u : Bool} (h : r = s) (h' : t = u) : Value.tuple #[.agg #[.int .u64 r.ul, .int .u64 r.uh, .int .i64 r.sl, .int .i64 r.sh], .bool t] = Value.tuple #[.agg #[.int .u64 s.ul, .int .u64 s.uh, .int .i64 s.sl, .int .i64 s.sh], .bool u] := by rw [h, h']
section
variable {cc : Int} {a b X : Rg}
theorem gv_can (c0 : cc ≠ 0) (hg : bgood cc a b = true) (hc : bcan cc a b = true) (e : X = brng cc a b) : bnar X = bgiv cc a b ∧ bnok X = bgok cc a b := by
  subst e
  have h1 : bgok cc a b = bnok (brng cc a b) := by unfold bgok; rw [hg, hc, if_neg c0]; rfl
  refine ⟨?_, h1.symm⟩
  unfold bgiv
  rw [h1, if_neg c0]
  cases h : bnok (brng cc a b)
  · unfold bnar; rw [h]; simp
  · simp
theorem gv_not (h : bgood cc a b = false ∨ (cc ≠ 0 ∧ bcan cc a b = false)) : ball = bgiv cc a b ∧ false = bgok cc a b := by
  have h1 : bgok cc a b = false := by
    unfold bgok
    rcases h with h | ⟨h0, h⟩
    · rw [h]; rfl
    · rw [h, if_neg h0]; simp
  exact ⟨by unfold bgiv; rw [h1]; simp, h1.symm⟩
theorem gv_eq (hg : bgood 0 a b = true) : bmeet a b = bgiv 0 a b ∧ bmeets a b = bgok 0 a b := by
  have e : bgok 0 a b = bmeets a b := by unfold bgok; rw [hg]; rfl
  refine ⟨?_, e.symm⟩
  unfold bgiv
  rw [e]
  cases h : bmeets a b
  · unfold bmeet; rw [h]; simp
  · simp
theorem gv_good (c0 : bmay a = true) (c1 : bmay b = true) (h : 0 ≤ cc ∧ cc ≤ 10) : bgood cc a b = true := by
  unfold bgood; rw [c0, c1, decide_eq_true h.1, decide_eq_true h.2]; rfl
end
end Go.Proofs.Ytcngfmhhaleoaaa

/- What each condition of Given of package bounds comes to, as its run has it: plain laws. -/
set_option linter.unusedSectionVars false
set_option linter.unusedVariables false
set_option linter.unusedSimpArgs false
namespace Go.Proofs.Ytcngfmhhaleoaaa
open Go Go.RowKit
section
variable {a b : Rg} (ha : a.ok) (hb : b.ok)
include ha hb
theorem gvn_2 (h : (!(((2 : Int) == 2) && (b.ul == 18446744073709551615))) = false) : bcan 2 a b = false := by
  have h2 : b.ul = 18446744073709551615 := by simpa using h
  simp [bcan, h2]
theorem gvc_2 (h : (!(((2 : Int) == 2) && (b.ul == 18446744073709551615))) = true) : bcan 2 a b = true := by
  have h2 : b.ul ≠ 18446744073709551615 := by simpa using h
  simp [bcan, h2]
theorem gvr_2 (h : (!(((2 : Int) == 2) && (b.ul == 18446744073709551615))) = true) : (⟨if ((2 : Int) == 2) = true ∧ (b.ul == 18446744073709551615) = true then a.ul else max a.ul (if ((2 : Int) == 2) = true then IntKind.u64.wrap (b.ul + 1) else b.ul), a.uh, a.sl, a.sh⟩ : Rg) = brng 2 a b := by
  have h2 : b.ul ≠ 18446744073709551615 := by simpa using h
  have wa := Rg.wf_of ha
  have wb := Rg.wf_of hb
  obtain ⟨⟨a0, a1⟩, ⟨a2, a3⟩, ⟨a4, a5⟩, a6, a7⟩ := wa
  obtain ⟨⟨b0, b1⟩, ⟨b2, b3⟩, ⟨b4, b5⟩, b6, b7⟩ := wb
  have h3 : IntKind.u64.wrap (b.ul + 1) = b.ul + 1 := by rw [w_u64]; omega
  simp [brng, Rg.ext_iff, h2, h3]
theorem gvc_3 (h : (!(((3 : Int) == 2) && (b.ul == 18446744073709551615))) = true) : bcan 3 a b = true := by simp [bcan]
theorem gvr_3 (h : (!(((3 : Int) == 2) && (b.ul == 18446744073709551615))) = true) : (⟨if ((3 : Int) == 2) = true ∧ (b.ul == 18446744073709551615) = true then a.ul else max a.ul (if ((3 : Int) == 2) = true then IntKind.u64.wrap (b.ul + 1) else b.ul), a.uh, a.sl, a.sh⟩ : Rg) = brng 3 a b := by simp [brng, Rg.ext_iff]
theorem gvn_4 (h : (!(((4 : Int) == 4) && (b.uh == 0))) = false) : bcan 4 a b = false := by
  have h2 : b.uh = 0 := by simpa using h
  simp [bcan, h2]
theorem gvc_4 (h : (!(((4 : Int) == 4) && (b.uh == 0))) = true) : bcan 4 a b = true := by
  have h2 : b.uh ≠ 0 := by simpa using h
  simp [bcan, h2]
theorem gvr_4 (h : (!(((4 : Int) == 4) && (b.uh == 0))) = true) : (⟨a.ul, if ((4 : Int) == 4) = true ∧ (b.uh == 0) = true then a.uh else min a.uh (if ((4 : Int) == 4) = true then IntKind.u64.wrap (b.uh - 1) else b.uh), a.sl, a.sh⟩ : Rg) = brng 4 a b := by
  have h2 : b.uh ≠ 0 := by simpa using h
  have wa := Rg.wf_of ha
  have wb := Rg.wf_of hb
  obtain ⟨⟨a0, a1⟩, ⟨a2, a3⟩, ⟨a4, a5⟩, a6, a7⟩ := wa
  obtain ⟨⟨b0, b1⟩, ⟨b2, b3⟩, ⟨b4, b5⟩, b6, b7⟩ := wb
  have h3 : IntKind.u64.wrap (b.uh - 1) = b.uh - 1 := by rw [w_u64]; omega
  simp [brng, Rg.ext_iff, h2, h3]
theorem gvc_5 (h : (!(((5 : Int) == 4) && (b.uh == 0))) = true) : bcan 5 a b = true := by simp [bcan]
theorem gvr_5 (h : (!(((5 : Int) == 4) && (b.uh == 0))) = true) : (⟨a.ul, if ((5 : Int) == 4) = true ∧ (b.uh == 0) = true then a.uh else min a.uh (if ((5 : Int) == 4) = true then IntKind.u64.wrap (b.uh - 1) else b.uh), a.sl, a.sh⟩ : Rg) = brng 5 a b := by simp [brng, Rg.ext_iff]
theorem gvn_6 (h : (!(((6 : Int) == 6) && (b.sl == 9223372036854775807))) = false) : bcan 6 a b = false := by
  have h2 : b.sl = 9223372036854775807 := by simpa using h
  simp [bcan, h2]
theorem gvc_6 (h : (!(((6 : Int) == 6) && (b.sl == 9223372036854775807))) = true) : bcan 6 a b = true := by
  have h2 : b.sl ≠ 9223372036854775807 := by simpa using h
  simp [bcan, h2]
theorem gvr_6 (h : (!(((6 : Int) == 6) && (b.sl == 9223372036854775807))) = true) : (⟨a.ul, a.uh, if ((6 : Int) == 6) = true ∧ (b.sl == 9223372036854775807) = true then a.sl else max a.sl (if ((6 : Int) == 6) = true then IntKind.i64.wrap (b.sl + 1) else b.sl), a.sh⟩ : Rg) = brng 6 a b := by
  have h2 : b.sl ≠ 9223372036854775807 := by simpa using h
  have wa := Rg.wf_of ha
  have wb := Rg.wf_of hb
  obtain ⟨⟨a0, a1⟩, ⟨a2, a3⟩, ⟨a4, a5⟩, a6, a7⟩ := wa
  obtain ⟨⟨b0, b1⟩, ⟨b2, b3⟩, ⟨b4, b5⟩, b6, b7⟩ := wb
  have h3 : IntKind.i64.wrap (b.sl + 1) = b.sl + 1 := by rw [w_i64]; omega
  simp [brng, Rg.ext_iff, h2, h3]
theorem gvc_7 (h : (!(((7 : Int) == 6) && (b.sl == 9223372036854775807))) = true) : bcan 7 a b = true := by simp [bcan]
theorem gvr_7 (h : (!(((7 : Int) == 6) && (b.sl == 9223372036854775807))) = true) : (⟨a.ul, a.uh, if ((7 : Int) == 6) = true ∧ (b.sl == 9223372036854775807) = true then a.sl else max a.sl (if ((7 : Int) == 6) = true then IntKind.i64.wrap (b.sl + 1) else b.sl), a.sh⟩ : Rg) = brng 7 a b := by simp [brng, Rg.ext_iff]
theorem gvn_8 (h : (!(((8 : Int) == 8) && (b.sh == (-9223372036854775808)))) = false) : bcan 8 a b = false := by
  have h2 : b.sh = (-9223372036854775808) := by simpa using h
  simp [bcan, h2]
theorem gvc_8 (h : (!(((8 : Int) == 8) && (b.sh == (-9223372036854775808)))) = true) : bcan 8 a b = true := by
  have h2 : b.sh ≠ (-9223372036854775808) := by simpa using h
  simp [bcan, h2]
theorem gvr_8 (h : (!(((8 : Int) == 8) && (b.sh == (-9223372036854775808)))) = true) : (⟨a.ul, a.uh, a.sl, if ((8 : Int) == 8) = true ∧ (b.sh == (-9223372036854775808)) = true then a.sh else min a.sh (if ((8 : Int) == 8) = true then IntKind.i64.wrap (b.sh - 1) else b.sh)⟩ : Rg) = brng 8 a b := by
  have h2 : b.sh ≠ (-9223372036854775808) := by simpa using h
  have wa := Rg.wf_of ha
  have wb := Rg.wf_of hb
  obtain ⟨⟨a0, a1⟩, ⟨a2, a3⟩, ⟨a4, a5⟩, a6, a7⟩ := wa
  obtain ⟨⟨b0, b1⟩, ⟨b2, b3⟩, ⟨b4, b5⟩, b6, b7⟩ := wb
  have h3 : IntKind.i64.wrap (b.sh - 1) = b.sh - 1 := by rw [w_i64]; omega
  simp [brng, Rg.ext_iff, h2, h3]
theorem gvc_9 (h : (!(((9 : Int) == 8) && (b.sh == (-9223372036854775808)))) = true) : bcan 9 a b = true := by simp [bcan]
theorem gvr_9 (h : (!(((9 : Int) == 8) && (b.sh == (-9223372036854775808)))) = true) : (⟨a.ul, a.uh, a.sl, if ((9 : Int) == 8) = true ∧ (b.sh == (-9223372036854775808)) = true then a.sh else min a.sh (if ((9 : Int) == 8) = true then IntKind.i64.wrap (b.sh - 1) else b.sh)⟩ : Rg) = brng 9 a b := by simp [brng, Rg.ext_iff]
theorem gvc_10 : bcan 10 a b = true := by simp [bcan]
theorem gvr_10 : a = brng 10 a b := by simp [brng]
theorem gvc_1n (h : bones b = false) : bcan 1 a b = true := by simp [bcan, h]
theorem gvr_1n (h : bones b = false) : a = brng 1 a b := by simp [brng, h]
theorem gvn_1 (h : bones b = true) (hu : (!((a.ul == bsingle b) && (a.uh == bsingle b))) = false ∨ (!((a.sl == IntKind.i64.wrap (bsingle b)) && (a.sh == IntKind.i64.wrap (bsingle b)))) = false) : bcan 1 a b = false := by
  have hs : bsingle b = b.ul := by unfold bsingle; rw [h]; simp
  have ht : IntKind.i64.wrap b.ul = s64 b.ul := (s64_wrap _).symm
  rw [hs, ht] at hu
  simp only [bcan, h, if_true]
  rcases hu with hu | hu
  · simp at hu; simp [hu]
  · simp at hu; simp [hu]
theorem gvc_1 (h : bones b = true) (hu : (!((a.ul == bsingle b) && (a.uh == bsingle b))) = true) (hv : (!((a.sl == IntKind.i64.wrap (bsingle b)) && (a.sh == IntKind.i64.wrap (bsingle b)))) = true) : bcan 1 a b = true := by
  have hs : bsingle b = b.ul := by unfold bsingle; rw [h]; simp
  have ht : IntKind.i64.wrap b.ul = s64 b.ul := (s64_wrap _).symm
  rw [hs] at hu
  rw [hs, ht] at hv
  simp only [bcan, h, if_true]
  simp at hu hv ⊢
  exact ⟨hu, hv⟩
theorem gvr_1 (ma : bmay a = true) (h : bones b = true) (hu : (!((a.ul == bsingle b) && (a.uh == bsingle b))) = true) (hv : (!((a.sl == IntKind.i64.wrap (bsingle b)) && (a.sh == IntKind.i64.wrap (bsingle b)))) = true) : (⟨if (a.ul == bsingle b) = true ∧ (a.uh == bsingle b) = false then IntKind.u64.wrap (a.ul + 1) else a.ul, if (a.ul == bsingle b) = false ∧ (a.uh == bsingle b) = true then IntKind.u64.wrap (a.uh - 1) else a.uh, if (a.sl == IntKind.i64.wrap (bsingle b)) = true ∧ (a.sh == IntKind.i64.wrap (bsingle b)) = false then IntKind.i64.wrap (a.sl + 1) else a.sl, if (a.sl == IntKind.i64.wrap (bsingle b)) = false ∧ (a.sh == IntKind.i64.wrap (bsingle b)) = true then IntKind.i64.wrap (a.sh - 1) else a.sh⟩ : Rg) = brng 1 a b := by
  have hs : bsingle b = b.ul := by unfold bsingle; rw [h]; simp
  have ht : IntKind.i64.wrap b.ul = s64 b.ul := (s64_wrap _).symm
  rw [hs] at hu
  rw [hs, ht] at hv
  rw [hs, ht]
  have wa := Rg.wf_of ha
  have wb := Rg.wf_of hb
  obtain ⟨⟨a0, a1⟩, ⟨a2, a3⟩, ⟨a4, a5⟩, a6, a7⟩ := wa
  obtain ⟨⟨b0, b1⟩, ⟨b2, b3⟩, ⟨b4, b5⟩, b6, b7⟩ := wb
  have sb := s64_bd b.ul
  rw [bmay_iff] at ma
  simp only [brng, h, if_true, Rg.ext_iff]
  generalize s64 b.ul = t at *
  simp only [Bool.not_eq_true', Bool.and_eq_false_iff, beq_eq_false_iff_ne, ne_eq] at hu hv
  simp only [beq_iff_eq, beq_eq_false_iff_ne, ne_eq, w_u64, w_i64]
  refine ⟨?_, ?_, ?_, ?_⟩ <;> (split <;> (try split) <;> omega)
end
end Go.Proofs.Ytcngfmhhaleoaaa
