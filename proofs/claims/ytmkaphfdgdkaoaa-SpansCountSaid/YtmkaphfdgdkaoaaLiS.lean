/- Calls of a program and what crosses them; rows of numbers alike. No walk is in here. -/
import Derived.Test.YtmkaphfdgdkaoaaLiG
set_option linter.unusedSimpArgs false
set_option linter.unusedVariables false
set_option linter.unusedVariables false
set_option linter.unusedSimpArgs false
namespace Go.Proofs.Ytmkaphfdgdkaoaa
open Go Go.RowKit

def rowsN (L : List Nat) : List (List Int) := L.map fun i : Nat => [(i : Int)]
theorem rowsN_len (L : List Nat) : (rowsN L).length = L.length := by simp [rowsN]
theorem rowsN_app (L : List Nat) (n : Nat) : rowsN L ++ [[(n : Int)]] = rowsN (L ++ [n]) := by simp [rowsN]
theorem rowsN_at {L : List Nat} {j : Nat} (h : j < L.length) : gt (rowsN L) (j : Int) 0 = ((L.getD j 0 : Nat) : Int) := by simp [gt, rowsN, h]
def calN (p : Prog) : Nat → List Nat
  | 0 => []
  | n + 1 => if (insAt p.l (n : Int)).k = 5 then calN p n ++ [n] else calN p n
def lcalls (p : Prog) : List (List Int) := if (icheck p).2 = 0 then rowsN (calN p p.l.length) else []
theorem lcalls_y {p : Prog} (h : (icheck p).2 = 0) : lcalls p = rowsN (calN p p.l.length) := if_pos h
theorem lcalls_n {p : Prog} (h : (icheck p).2 ≠ 0) : lcalls p = [] := if_neg h
theorem calN_y {p : Prog} {n : Nat} (h : (gt p.l (n : Int) 0 == 5) = true) : calN p (n + 1) = calN p n ++ [n] := if_pos (eqI h)
theorem calN_n {p : Prog} {n : Nat} (h : (gt p.l (n : Int) 0 == 5) = false) : calN p (n + 1) = calN p n := if_neg (neI h)
theorem calN_len (p : Prog) : ∀ n, (calN p n).length ≤ n
  | 0 => Nat.le_refl _
  | n + 1 => by
    have := calN_len p n
    unfold calN
    split
    · simp; omega
    · omega
theorem calN_lt (p : Prog) : ∀ n x, x ∈ calN p n → x < n
  | 0, x, h => by simp [calN] at h
  | n + 1, x, h => by
    have := calN_lt p n x
    unfold calN at h
    split at h
    · simp at h
      rcases h with h | h
      · have := this h; omega
      · omega
    · have := this h; omega
theorem call_at {p : Prog} {n j : Nat} (h : j < (rowsN (calN p n)).length) : ∃ x, (calN p n)[j]? = some x ∧ gt (rowsN (calN p n)) (j : Int) 0 = (x : Int) ∧ x < n := by
  rw [rowsN_len] at h
  exact ⟨(calN p n)[j], List.getElem?_eq_getElem h, by rw [rowsN_at h]; simp [h], calN_lt p n _ (List.getElem_mem h)⟩
theorem lcalls_len (p : Prog) : (lcalls p).length ≤ p.l.length := by
  unfold lcalls
  split
  · rw [rowsN_len]; exact calN_len p _
  · exact Nat.zero_le _
def crV (p : Prog) (i r : Int) : Int := opI .and .i64 (opI .shr .i64 (opI .andNot .i64 (opI .and .i64 (gt (rowsB (lrunB p).1) i 0) (gt (rowsB (lrunB p).2) i 0)) (vwr (insAt p.l i))) r) 1
def crAny (p : Prog) (r : Int) (L : List Nat) : Bool := L.any fun i => crV p (i : Int) r == 1
def lcross (p : Prog) (r : Int) : Bool := decide ((icheck p).2 = 0 ∧ 0 ≤ r ∧ r < 11) && crAny p r (calN p p.l.length)
theorem lcross_no {p : Prog} {r : Int} (h : ¬ ((icheck p).2 = 0 ∧ 0 ≤ r ∧ r < 11)) : lcross p r = false := by
  unfold lcross; rw [decide_eq_false h]; rfl
theorem lcross_is {p : Prog} {r : Int} (h : (icheck p).2 = 0 ∧ 0 ≤ r ∧ r < 11) : lcross p r = crAny p r (calN p p.l.length) := by
  unfold lcross; rw [decide_eq_true h]; rfl
theorem crAny_step {p : Prog} {r : Int} {L : List Nat} {j x : Nat} (h : L[j]? = some x) (hn : crAny p r (L.take j) = false) (hx : (crV p (x : Int) r == 1) = false) : crAny p r (L.take (j + 1)) = false := by
  unfold crAny at *
  rw [List.take_add_one, h, List.any_append, hn]
  simpa using hx
theorem crAny_y {p : Prog} {r : Int} {L : List Nat} {j x : Nat} (h : L[j]? = some x) (hx : (crV p (x : Int) r == 1) = true) : crAny p r L = true :=
  List.any_eq_true.2 ⟨x, List.mem_of_getElem? h, hx⟩
theorem rows1_at {k : CE} {a : List (List Int)} (h : RowsIn [k] a) {j : Nat} (hj : j < a.length) : a[j]? = some [gt a (j : Int) 0] := by
  have h1 := rowIn_length (h.row _ (List.getElem_mem hj))
  rw [List.getElem?_eq_getElem hj]
  congr 1
  rcases he : a[j] with _ | ⟨x, _ | ⟨y, t⟩⟩
  · rw [he] at h1; cases h1
  · simp [gt, hj, he]
  · rw [he] at h1; simp at h1
theorem take_step {k : CE} {a b : List (List Int)} (ha : RowsIn [k] a) (hb : RowsIn [k] b) {j : Nat} (h : a.take j = b.take j) (h1 : j < a.length) (h2 : j < b.length) (he : gt a (j : Int) 0 = gt b (j : Int) 0) : a.take (j + 1) = b.take (j + 1) := by
  rw [List.take_add_one, List.take_add_one, h, rows1_at ha h1, rows1_at hb h2, he]
theorem take_all {a b : List (List Int)} {j : Nat} (h : a.take j = b.take j) (h1 : ¬ j < a.length) (hl : a.length = b.length) : a = b := by
  rwa [List.take_of_length_le (by omega), List.take_of_length_le (by omega)] at h
theorem lrun_lenO {p : Prog} (hl : p.l.length ≤ maxLen) : (lrun p).1.2.length ≤ p.l.length := by
  by_cases h : (icheck p).2 = 0
  · rw [lrun_l h]
    simp only [rows_len, (lrun_fix hl h).lo]
    exact Nat.le_refl _
  · rw [lrun_no h]
    exact Nat.zero_le _
theorem lnx_len (p : Prog) (i : Int) : (lnx p i).length ≤ 2 := by
  unfold lnx lnext
  split
  · split
    · split <;> simp
    · split <;> simp
  · simp
theorem wrapU {r : Int} (h : 0 ≤ r) (h2 : r < 11) : IntKind.u64.wrap r = r := by rw [w_u64]; omega
end Go.Proofs.Ytmkaphfdgdkaoaa
