/- Giving spans homes, in plain words: as the laws reckon. No walk is in here. -/
import Derived.Test.YtoaffiooliclgaaAlJ
import Derived.Test.YtoaffiooliclgaaAlF
set_option linter.unusedSimpArgs false
set_option linter.unusedVariables false
set_option linter.unusedVariables false
set_option linter.unusedSimpArgs false
namespace Go.Proofs.Ytoaffiooliclgaa
open Go Go.RowKit
theorem subZ {x : Int} (h : -1 ≤ x ∧ x ≤ 1000) : opI .sub .i64 x 1 = x - 1 := by
  show IntKind.i64.wrap (x - 1) = _
  rw [w_i64]; omega
theorem rev_step {l : List Row} {n k : Nat} (h : n < l.length) (hk : (l.length : Int) - 1 - n = k) : l.reverse.take n ++ [l.getD k []] = l.reverse.take (n + 1) := by
  rw [List.take_succ_eq_append_getElem (by simpa using h), List.getElem_reverse, List.getD_eq_getElem?_getD, List.getElem?_eq_getElem (by omega)]
  congr 2
  show l[k] = _
  congr 1
  omega
theorem rev_all {l : List Row} {n : Nat} (h : ¬ n < l.length) (h2 : n ≤ l.length) : aRun l = aRun (l.reverse.take n) := by
  rw [List.take_of_length_le (by simp; omega)]
  exact aRun_perm (List.reverse_perm l).symm
theorem got_y {K : Nat → Int} {i : Nat} (h : (K i == 0) = true) : gotN K (i + 1) = gotN K i := by rw [gotN, if_pos (eqI h)]; rfl
theorem got_n {K : Nat → Int} {i : Nat} (h : (K i == 0) = false) : gotN K (i + 1) = gotN K i + 1 := by rw [gotN, if_neg (neI h)]
theorem got_le (K : Nat → Int) : ∀ i, gotN K i ≤ i
  | 0 => Nat.le_refl _
  | i + 1 => by have := got_le K i; unfold gotN; split <;> omega
theorem got_run {l : List Row} (h : aRight l = true) : gotN (kf (aRun l).1) 11 = l.length := by
  rw [show kf (aRun l).1 = pk l from funext (kf_run h)]
  exact got_all (aR_u h)
/-- How many of the first spans lie where one begins. -/
def nAtN (l : List Row) (s : Row) (j : Nat) : Nat := ((l.take j).filter fun o => decide (fr o ≤ fr s) && decide (fr s ≤ tt o)).length
theorem nAtN_le (l : List Row) (s : Row) (j : Nat) : nAtN l s j ≤ j := by
  unfold nAtN
  have h1 := List.length_filter_le (fun o => decide (fr o ≤ fr s) && decide (fr s ≤ tt o)) (l.take j)
  have h2 := List.length_take_le j l
  omega
theorem nAtN_step {l : List Row} {s : Row} {j : Nat} (hj : j < l.length) : nAtN l s (j + 1) = nAtN l s j + if (fr (l.getD j []) ≤ fr s ∧ fr s ≤ tt (l.getD j [])) then 1 else 0 := by
  unfold nAtN
  rw [List.take_succ_eq_append_getElem hj, List.filter_append, List.length_append, List.getD_eq_getElem?_getD, List.getElem?_eq_getElem hj]
  congr 1
  rw [List.filter_cons]
  show (if _ then _ else _ : List Row).length = if (fr l[j] ≤ fr s ∧ fr s ≤ tt l[j]) then 1 else 0
  by_cases h : fr l[j] ≤ fr s ∧ fr s ≤ tt l[j]
  · rw [if_pos (by simp [h]), if_pos h]; rfl
  · rw [if_neg (by simpa using h), if_neg h]; rfl
theorem nAtN_end {l : List Row} {s : Row} {j : Nat} (h : ¬ j < l.length) : nAtN l s j = nAt l s := by
  unfold nAtN nAt
  rw [List.take_of_length_le (by omega)]
theorem nAtN_1 {l : List Row} {s : Row} {j : Nat} (hj : j < l.length) (h : decide (fr s < fr (l.getD j [])) = true) : nAtN l s (j + 1) = nAtN l s j := by
  have := of_decide_eq_true h
  rw [nAtN_step hj, if_neg (by omega)]; rfl
theorem nAtN_2 {l : List Row} {s : Row} {j : Nat} (hj : j < l.length) (h : decide (tt (l.getD j []) < fr s) = true) : nAtN l s (j + 1) = nAtN l s j := by
  have := of_decide_eq_true h
  rw [nAtN_step hj, if_neg (by omega)]; rfl
theorem nAtN_3 {l : List Row} {s : Row} {j : Nat} (hj : j < l.length) (h : decide (fr s < fr (l.getD j [])) = false) (h2 : decide (tt (l.getD j []) < fr s) = false) : nAtN l s (j + 1) = nAtN l s j + 1 := by
  have := of_decide_eq_false h
  have := of_decide_eq_false h2
  rw [nAtN_step hj, if_pos (by omega)]
theorem any_step {l : List Row} {i : Nat} (hi : i < l.length) : (l.take (i + 1)).any ov = ((l.take i).any ov || ov (l.getD i [])) := by
  rw [List.take_succ_eq_append_getElem hi, List.any_append, List.getD_eq_getElem?_getD, List.getElem?_eq_getElem hi]
  simp
theorem most_step (l : List Row) (i : Nat) : mostN l (i + 1) = max (mostN l i) (nAt l (l.getD i []) : Int) := rfl
theorem any_end {l : List Row} {i : Nat} (h : ¬ i < l.length) : (l.take i).any ov = overL l := by
  rw [List.take_of_length_le (by omega)]; rfl
theorem most_end {l : List Row} {i : Nat} (h : ¬ i < l.length) (h2 : i ≤ l.length) : mostN l i = mostN l l.length := by
  rw [show i = l.length by omega]
theorem home_run {l : List Row} (h : aRight l = true) {i : Nat} (hi : i < l.length) (h1 : kf (aRun l).1 (rg (l.getD i [])).toNat = 1) (ho : ov (l.getD i []) = true) : nf (aRun l).1 (rg (l.getD i [])).toNat = 3 ∨ nf (aRun l).1 (rg (l.getD i [])).toNat = 9 := by
  have hb := (okC_run h hi).1
  have h2 : aMay1 (kf (aRun l).1 (rg (l.getD i [])).toNat) (nf (aRun l).1 (rg (l.getD i [])).toNat) (ov (l.getD i [])) = true := by
    cases hq : aMay1 (kf (aRun l).1 (rg (l.getD i [])).toNat) (nf (aRun l).1 (rg (l.getD i [])).toNat) (ov (l.getD i [])) with
    | true => rfl
    | false => exact absurd (Or.inr ⟨h1, hq⟩) hb
  have h3 := ((aMay1_iff _ _ _).1 h2).2
  rw [ho] at h3
  rcases List.mem_cons.1 h3 with h3 | h3
  · exact .inl h3
  · exact .inr (List.mem_singleton.1 h3)
end Go.Proofs.Ytoaffiooliclgaa
