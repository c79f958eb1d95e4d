/- What live.Run's answer says: for the laws LiveRules and LiveLeast. No walk is in here. -/
import Derived.Test.YtmkaphfdgdkaoaaLiE
set_option linter.unusedSimpArgs false
set_option linter.unusedVariables false
set_option linter.unusedVariables false
set_option linter.unusedSimpArgs false
namespace Go.Proofs.Ytmkaphfdgdkaoaa
open Go Go.RowKit

def lnx (p : Prog) (i : Int) : List (List Int) := if (icheck p).2 = 0 ∧ 0 ≤ i ∧ i < p.l.length then lnext p i else []
theorem lnx_y {p : Prog} {i : Int} (h : (icheck p).2 = 0) (h0 : 0 ≤ i) (h1 : i < p.l.length) : lnx p i = lnext p i := if_pos ⟨h, h0, h1⟩
theorem lnx_e {p : Prog} {i : Int} (h : (icheck p).2 ≠ 0) : lnx p i = [] := if_neg fun q => h q.1
theorem lnx_0 {p : Prog} {i : Int} (h : i < 0) : lnx p i = [] := if_neg fun q => by omega
theorem lnx_1 {p : Prog} {i : Int} (h : ¬ i < p.l.length) : lnx p i = [] := if_neg fun q => by omega
theorem lrun_wakes : lrun ⟨0, [[0, 11, 64, 0, 1, 0, 1, 0, 0], [6, 0, 0, 0, 0, 0, 0, 0, 0]]⟩ = (([[2], [1]], [[1], [0]]), 0) := by kernel_rfl
theorem lrun_e (p : Prog) : (lrun p).2 = (icheck p).2 := by
  unfold lrun
  split
  · rename_i h; exact h.symm
  · rfl
theorem lrun_l {p : Prog} (h : (icheck p).2 = 0) : (lrun p).1 = (rowsB (lrunB p).1, rowsB (lrunB p).2) := by
  unfold lrun; rw [if_pos h]
theorem lrun_no {p : Prog} (h : (icheck p).2 ≠ 0) : (lrun p).1 = ([], []) := by
  unfold lrun; rw [if_neg h]
theorem lrun_fix {p : Prog} (hl : p.l.length ≤ maxLen) (h : (icheck p).2 = 0) : Fix p (lrunB p).1 (lrunB p).2 := lrunB_fix (icheck_ok hl h).1.2.2
theorem orB_snoc (I : List BV) (l : List Nat) (a : BV) (x : Nat) : orB I (l ++ [x]) a = orB I l a ||| I.getD x 0 := by
  unfold orB; rw [List.foldl_append]; rfl
theorem behind {p : Prog} {I : List BV} {i j x : Nat} (h : (nx p i)[j]? = some x) (hx : x < I.length) : opI .or .i64 (orB I ((nx p i).take j) 0).toInt (gt (rowsB I) x 0) = (orB I ((nx p i).take (j + 1)) 0).toInt := by
  rw [gt_rowsB hx, opI_or, bvI_toInt, bvI_toInt, List.take_add_one, h, Option.toList_some, orB_snoc]
theorem Fix.gO {p : Prog} {I O : List BV} (h : Fix p I O) {i : Nat} (hi : i < p.l.length) : gt (rowsB O) i 0 = (orB I (nx p i) 0).toInt := by
  rw [gt_rowsB (h.lo ▸ hi), h.oo i hi]
theorem Fix.gI {p : Prog} {I O : List BV} (h : Fix p I O) {i : Nat} (hi : i < p.l.length) : gt (rowsB I) i 0 = opI .or .i64 (opI .andNot .i64 (gt (rowsB O) i 0) (vwr (insAt p.l i))) (vrd (insAt p.l i)) := by
  rw [gt_rowsB (h.li ▸ hi), gt_rowsB (h.lo ▸ hi), h.ii i hi, opI_or, opI_andNot, bvI_toInt, bvI_toInt]
  rfl
/-- What the first instructions read. -/
def rdB (p : Prog) : Nat → BV
  | 0 => 0
  | m + 1 => rdB p m ||| rB p m
theorem rdB_bit {p : Prog} {k : Nat} : ∀ {m j : Nat}, j < m → (rB p j).getLsbD k = true → (rdB p m).getLsbD k = true
  | 0, j, h, _ => by omega
  | m + 1, j, h, hb => by
    rw [rdB, BitVec.getLsbD_or, Bool.or_eq_true]
    rcases Nat.lt_or_ge j m with h1 | h1
    · exact .inl (rdB_bit h1 hb)
    · obtain rfl : j = m := by omega
      exact .inr hb
theorem rdB_step (p : Prog) (m : Nat) : opI .or .i64 (rdB p m).toInt (vrd (insAt p.l m)) = (rdB p (m + 1)).toInt := by
  rw [opI_or, bvI_toInt]; rfl
theorem Fix.least {p : Prog} {I O : List BV} (h : Fix p I O) {i : Nat} (hi : i < p.l.length) : opI .andNot .i64 (gt (rowsB I) i 0) (rdB p p.l.length).toInt = 0 := by
  rw [gt_rowsB (h.li ▸ hi), opI_andNot, bvI_toInt, bvI_toInt]
  have : I.getD i 0 &&& ~~~ rdB p p.l.length = 0 := BitVec.eq_of_getLsbD_eq fun k hk => by
    rw [BitVec.getLsbD_and, BitVec.getLsbD_not]
    cases hb : (I.getD i 0).getLsbD k with
    | false => simp
    | true =>
      obtain ⟨j, h1, h2⟩ := h.rd i k hb
      simp [rdB_bit h1 h2]
  rw [this]
  rfl
theorem lrun_len {p : Prog} (hl : p.l.length ≤ maxLen) : (lrun p).1.1.length ≤ p.l.length := by
  by_cases h : (icheck p).2 = 0
  · rw [lrun_l h]
    simp only [rows_len, (lrun_fix hl h).li]
    exact Nat.le_refl _
  · rw [lrun_no h]
    exact Nat.zero_le _
theorem lrun_nil {p : Prog} (h : (lrun p).2 ≠ 0) : (lrun p).1.1.length = 0 := by
  rw [lrun_no (fun q => h ((lrun_e p).trans q))]; rfl
theorem least_at {p : Prog} (hl : p.l.length ≤ maxLen) {j : Nat} (hj : j < (lrun p).1.1.length) : opI .andNot .i64 (gt (lrun p).1.1 j 0) (rdB p p.l.length).toInt = 0 := by
  by_cases h : (icheck p).2 = 0
  · rw [lrun_l h] at hj ⊢
    simp only [rows_len, (lrun_fix hl h).li] at hj
    exact (lrun_fix hl h).least hj
  · rw [lrun_no h] at hj
    exact absurd hj (Nat.not_lt_zero _)
end Go.Proofs.Ytmkaphfdgdkaoaa
