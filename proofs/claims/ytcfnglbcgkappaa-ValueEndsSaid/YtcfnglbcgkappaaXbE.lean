/- Contracts of Given of package bounds and of what it takes, by the symbolic run. -/
import Derived.Test.YtcfnglbcgkappaaXbD
import Derived.Test.YtcfnglbcgkappaaXbG
import Derived.Test.YtcfnglbcgkappaaProg
import Derived.Laws.Externs
set_option linter.unusedVariables false
set_option linter.unusedSimpArgs false
namespace Go.Proofs.Ytcfnglbcgkappaa
open Go.RowKit Go.ChangeShapes Go.WideShapes

def sM_bits (key : Nat) : Sm := ⟨90, key, [.one (.int .i8), .one (.int .i8), .one (.int .u64), .one (.int .u64)], [.one (.int .u64), .one (.int .i64)], true⟩
def sV_bits (op : Int) (l : Int) (x : Int) (y : Int) : List Dt := [.z (if okop op l = true then zdo op l x y else 0), .z (if okop op l = true then 0 else 2)]
def sF_bits : List Dt → List Dt
  | [.z x0, .z x1, .z x2, .z x3] => sV_bits x0 x1 x2 x3
  | _ => []
theorem sX_bits (op : Int) (hop : inK .i8 op = true) (l : Int) (hl : inK .i8 l = true) (x : Int) (hx : inK .u64 x = true) (y : Int) (hy : inK .u64 y = true) : (∀ w, Calls Try.prog 90 #[.int .i8 op, .int .i8 l, .int .u64 x, .int .u64 y] w fun e w' => e = .returned (.tuple #[.int .u64 (if okop op l = true then zdo op l x y else 0), .int .i64 (if okop op l = true then 0 else 2)]) ∧ Ext w w') ∧ valIn (.tuple #[.int .u64 (if okop op l = true then zdo op l x y else 0), .int .i64 (if okop op l = true then 0 else 2)]) = true := by
  have gx := inK_u64 hx
  have gy := inK_u64 hy
  cases hk : okop op l
  · refine ⟨fun w => (do_bad op l x y w ?_).mono ?_, by simp [valIn, partIn, cellIn]; decide⟩
    · unfold okop at hk
      rw [Bool.and_eq_false_iff, Bool.and_eq_false_iff] at hk
      rcases hk with (hk | hk) | hk
      · have := of_decide_eq_false hk
        simp; omega
      · have := of_decide_eq_false hk
        simp; omega
      · rw [hk]; simp
    · rintro e w' ⟨rfl, rfl⟩
      exact ⟨by simp, Ext.refl _⟩
  · unfold okop at hk
    simp only [Bool.and_eq_true, decide_eq_true_eq] at hk
    have hz := u64_inK (zdo_bd op l x y gx.1 gx.2 gy.1 gy.2)
    refine ⟨fun w => (do_any op l x y w gx.1 gx.2 gy.1 gy.2 hk.1.1 hk.1.2 hk.2).mono ?_, by simp [valIn, partIn, cellIn, hz]; decide⟩
    rintro e w' ⟨rfl, hx⟩
    exact ⟨by simp, hx⟩
theorem sK_bits {sp : Spec} {key : Nat} (hF : sp.F key = sF_bits) : SmOk Try.prog sp (sM_bits key) := by
  refine SmOk.pure hF rfl rfl fun xs vals w h => ?_
  obtain ⟨_, _, _, rfl, ⟨x0, rfl, rfl, gx0⟩, h⟩ := h
  obtain ⟨_, _, _, rfl, ⟨x1, rfl, rfl, gx1⟩, h⟩ := h
  obtain ⟨_, _, _, rfl, ⟨x2, rfl, rfl, gx2⟩, h⟩ := h
  obtain ⟨_, _, _, rfl, ⟨x3, rfl, rfl, gx3⟩, h⟩ := h
  obtain ⟨rfl, rfl⟩ := h
  have q := sX_bits x0 gx0 x1 gx1 x2 gx2 x3 gx3
  refine ⟨_, .inr ⟨run_enter Try.func90 (by kernel_rfl) (by kernel_rfl) _ w, q.1 w⟩, ?_, fun ρ v0 nid j he => ?_⟩
  · have q2 := q.2
    simp [valIn, partIn, cellIn] at q2
    simp [sM_bits, sF_bits, sV_bits, List.flatMap_cons, List.flatMap_nil, Sh.cks, List.append_nil, List.cons_append, List.nil_append, b2i_one, resIn, q2]
  · simp only [sM_bits, sF_bits, sV_bits, List.flatMap_cons, List.flatMap_nil, Sh.cks, List.append_nil, List.cons_append, List.nil_append, b2i_one, eqs, dI, dB, List.getElem?_cons_zero, List.getElem?_cons_succ, Nat.zero_add, Nat.add_zero, Nat.reduceAdd, and_true] at he
    simp [sM_bits, sF_bits, sV_bits, List.flatMap_cons, List.flatMap_nil, Sh.cks, List.append_nil, List.cons_append, List.nil_append, b2i_one, resVof, resParts, resCells, V.den, C.den, denL, den0, den0L, E.I, E.B, he]
def sM_rcut (key : Nat) : Sm := ⟨107, key, [.one (.int .u64), .one (.int .i8)], [.one (.int .u64)], false⟩
def sV_rcut (x : Int) (l : Int) : List Dt := [.z (zcut x l)]
def sF_rcut : List Dt → List Dt
  | [.z x0, .z x1] => sV_rcut x0 x1
  | _ => []
theorem sX_rcut (x : Int) (hx : inK .u64 x = true) (l : Int) (hl : inK .i8 l = true) : (∀ w, Calls Try.prog 107 #[.int .u64 x, .int .i8 l] w fun e w' => e = .returned (.int .u64 (zcut x l)) ∧ Ext w w') ∧ valIn (.int .u64 (zcut x l)) = true := by
  have gx := inK_u64 hx
  have hz := u64_inK (zcut_bd x l gx.1 gx.2)
  exact ⟨fun w => (rcut_any x l w gx.1 gx.2).mono (by rintro e w' ⟨rfl, rfl⟩; exact ⟨rfl, Ext.refl _⟩), hz⟩
theorem sK_rcut {sp : Spec} {key : Nat} (hF : sp.F key = sF_rcut) : SmOk Try.prog sp (sM_rcut key) := by
  refine SmOk.pure hF rfl rfl fun xs vals w h => ?_
  obtain ⟨_, _, _, rfl, ⟨x0, rfl, rfl, gx0⟩, h⟩ := h
  obtain ⟨_, _, _, rfl, ⟨x1, rfl, rfl, gx1⟩, h⟩ := h
  obtain ⟨rfl, rfl⟩ := h
  have q := sX_rcut x0 gx0 x1 gx1
  refine ⟨_, .inr ⟨run_enter Try.func107 (by kernel_rfl) (by kernel_rfl) _ w, q.1 w⟩, ?_, fun ρ v0 nid j he => ?_⟩
  · have q2 := q.2
    simp [valIn, partIn, cellIn] at q2
    simp [sM_rcut, sF_rcut, sV_rcut, List.flatMap_cons, List.flatMap_nil, Sh.cks, List.append_nil, List.cons_append, List.nil_append, b2i_one, resIn, q2]
  · simp only [sM_rcut, sF_rcut, sV_rcut, List.flatMap_cons, List.flatMap_nil, Sh.cks, List.append_nil, List.cons_append, List.nil_append, b2i_one, eqs, dI, dB, List.getElem?_cons_zero, List.getElem?_cons_succ, Nat.zero_add, Nat.add_zero, Nat.reduceAdd, and_true] at he
    simp [sM_rcut, sF_rcut, sV_rcut, List.flatMap_cons, List.flatMap_nil, Sh.cks, List.append_nil, List.cons_append, List.nil_append, b2i_one, resVof, resParts, resCells, V.den, C.den, denL, den0, den0L, E.I, E.B, he]
end Go.Proofs.Ytcfnglbcgkappaa
