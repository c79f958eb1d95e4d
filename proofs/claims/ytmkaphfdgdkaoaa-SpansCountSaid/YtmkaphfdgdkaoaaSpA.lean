/- Spans of a program: where registers are live. No walk is in here. -/
import Derived.Test.YtmkaphfdgdkaoaaLiS
set_option linter.unusedSimpArgs false
set_option linter.unusedVariables false
set_option linter.unusedVariables false
set_option linter.unusedSimpArgs false
namespace Go.Proofs.Ytmkaphfdgdkaoaa
open Go Go.RowKit

structure Span where
  reg : Int
  fr : Int
  to : Int
  ov : Bool
def spanAt (l : List (List Int)) (i : Int) : Span := ⟨gt l i 0, gt l i 1, gt l i 2, gt l i 3 == 1⟩
theorem spanAt_mk (l : List (List Int)) (i : Int) : (⟨gt l i 0, gt l i 1, gt l i 2, gt l i 3 == 1⟩ : Span) = spanAt l i := rfl
theorem opI_and (x y : Int) : opI .and .i64 x y = (bvI x &&& bvI y).toInt := wrapBV _
theorem opI_shr (X : BV) {r : Nat} (h : r < 64) : opI .shr .i64 X.toInt (r : Int) = (X.sshiftRight r).toInt := by
  show X.toInt.fdiv (2 ^ min (r : Int).toNat 64) = _
  rw [BitVec.toInt_sshiftRight, Int.shiftRight_eq_div_pow, Int.toNat_natCast, Nat.min_eq_left (by omega), Int.fdiv_eq_ediv_of_nonneg _ (by exact Int.le_of_lt (Int.pow_pos (by decide)))]
  norm_cast
theorem and_one (Y : BV) : (Y &&& 1#64).toInt = b2i (Y.getLsbD 0) := by
  have h : Y &&& 1#64 = if Y.getLsbD 0 then 1#64 else 0#64 := BitVec.eq_of_getLsbD_eq fun k hk => by
    rw [BitVec.getLsbD_and, BitVec.getLsbD_one]
    by_cases h0 : k = 0
    · subst h0; cases Y.getLsbD 0 <;> rfl
    · cases Y.getLsbD 0 <;> simp [h0]
  rw [h]
  cases Y.getLsbD 0 <;> rfl
theorem bitT (X : BV) {r : Nat} (h : r < 64) : opI .and .i64 (opI .shr .i64 X.toInt (r : Int)) 1 = b2i (X.getLsbD r) := by
  rw [opI_shr X h, opI_and, bvI_toInt]
  show ((X.sshiftRight r) &&& 1#64).toInt = _
  rw [and_one, BitVec.getLsbD_sshiftRight]
  simp [h]
theorem b2i_1 (b : Bool) : (b2i b == 1) = b := by cases b <;> rfl
theorem b2i_0 (b : Bool) : (b2i b == 0) = !b := by cases b <;> rfl
def plB (p : Prog) (i : Nat) : BV := (lrunB p).1.getD i 0 ||| (lrunB p).2.getD i 0
def onP (p : Prog) (r i : Nat) : Bool := (plB p i ||| wB p i).getLsbD r
def lvP (p : Prog) (r i : Nat) : Bool := (plB p i).getLsbD r
def alB (p : Prog) : Nat → BV
  | 0 => 0
  | n + 1 => alB p n ||| plB p n
def plcs (p : Prog) (r : Nat) : Nat → List Nat
  | 0 => []
  | n + 1 => if onP p r n = true then plcs p r n ++ [n] else plcs p r n
def frO : List Nat → Int
  | [] => -1
  | x :: _ => x
def frP (r : Nat) (P : List Nat) : Int := if r = 1 ∨ r = 10 then 0 else frO P
def spn (p : Prog) (r : Nat) : List Int := [(r : Int), frP r (plcs p r p.l.length), (((plcs p r p.l.length).getLastD 0 : Nat) : Int), b2i (lcross p r)]
def lspans (p : Prog) : Nat → List (List Int)
  | 0 => []
  | r + 1 => if (alB p p.l.length).getLsbD r = true then lspans p r ++ [spn p r] else lspans p r
def srun (p : Prog) : List (List Int) × Int := if (icheck p).2 = 0 then (lspans p 11, 0) else ([], (icheck p).2)
theorem srun_y {p : Prog} (h : (icheck p).2 = 0) : srun p = (lspans p 11, 0) := if_pos h
theorem srun_n {p : Prog} (h : (icheck p).2 ≠ 0) : srun p = ([], (icheck p).2) := if_neg h
theorem lspans_len (p : Prog) : ∀ r, (lspans p r).length ≤ r
  | 0 => Nat.le_refl _
  | r + 1 => by
    have := lspans_len p r
    unfold lspans
    split
    · simp; omega
    · omega
theorem srun_len (p : Prog) : (srun p).1.length ≤ 11 := by
  unfold srun
  split
  · exact lspans_len p 11
  · exact Nat.zero_le _
theorem lspans_y {p : Prog} {r : Nat} (h : (alB p p.l.length).getLsbD r = true) : lspans p (r + 1) = lspans p r ++ [spn p r] := if_pos h
theorem lspans_n {p : Prog} {r : Nat} (h : (alB p p.l.length).getLsbD r = false) : lspans p (r + 1) = lspans p r := if_neg (by rw [h]; simp)
theorem plcs_y {p : Prog} {r n : Nat} (h : onP p r n = true) : plcs p r (n + 1) = plcs p r n ++ [n] := if_pos h
theorem plcs_n {p : Prog} {r n : Nat} (h : onP p r n = false) : plcs p r (n + 1) = plcs p r n := if_neg (by rw [h]; simp)
theorem plcs_len (p : Prog) (r : Nat) : ∀ n, (plcs p r n).length ≤ n
  | 0 => Nat.le_refl _
  | n + 1 => by
    have := plcs_len p r n
    unfold plcs
    split
    · simp; omega
    · omega
theorem plcs_mem (p : Prog) (r : Nat) : ∀ n x, x ∈ plcs p r n ↔ x < n ∧ onP p r x = true
  | 0, x => by simp [plcs]
  | n + 1, x => by
    have := plcs_mem p r n x
    unfold plcs
    split
    · rename_i h
      rw [List.mem_append, this, List.mem_singleton]
      constructor
      · rintro (⟨h1, h2⟩ | rfl)
        · exact ⟨by omega, h2⟩
        · exact ⟨by omega, h⟩
      · rintro ⟨h1, h2⟩
        by_cases e : x = n
        · exact .inr e
        · exact .inl ⟨by omega, h2⟩
    · rename_i h
      rw [this]
      constructor
      · rintro ⟨h1, h2⟩; exact ⟨by omega, h2⟩
      · rintro ⟨h1, h2⟩
        refine ⟨?_, h2⟩
        by_cases e : x = n
        · exact (h (e ▸ h2)).elim
        · omega
theorem alB_bit (p : Prog) (r : Nat) : ∀ n, (alB p n).getLsbD r = true ↔ ∃ i, i < n ∧ lvP p r i = true
  | 0 => by simp [alB]
  | n + 1 => by
    rw [alB, BitVec.getLsbD_or, Bool.or_eq_true, alB_bit p r n]
    constructor
    · rintro (⟨i, h1, h2⟩ | h)
      · exact ⟨i, by omega, h2⟩
      · exact ⟨n, by omega, h⟩
    · rintro ⟨i, h1, h2⟩
      by_cases e : i = n
      · exact .inr (e ▸ h2)
      · exact .inl ⟨i, by omega, h2⟩
theorem on_of_lv {p : Prog} {r i : Nat} (h : lvP p r i = true) : onP p r i = true := by
  unfold onP lvP at *
  rw [BitVec.getLsbD_or, h]; rfl
theorem plcs_ne {p : Prog} {r : Nat} (h : (alB p p.l.length).getLsbD r = true) : plcs p r p.l.length ≠ [] := fun e => by
  obtain ⟨i, h1, h2⟩ := (alB_bit p r _).1 h
  have := (plcs_mem p r p.l.length i).2 ⟨h1, on_of_lv h2⟩
  rw [e] at this; cases this
/-! ### As the programs reckon -/
theorem plO {p : Prog} (hF : Fix p (lrunB p).1 (lrunB p).2) {i : Nat} (hi : i < p.l.length) : opI .or .i64 (gt (rowsB (lrunB p).1) (i : Int) 0) (gt (rowsB (lrunB p).2) (i : Int) 0) = (plB p i).toInt := by
  rw [gt_rowsB (hF.li ▸ hi), gt_rowsB (hF.lo ▸ hi), opI_or, bvI_toInt, bvI_toInt]; rfl
theorem onT {p : Prog} (hF : Fix p (lrunB p).1 (lrunB p).2) {i : Nat} (hi : i < p.l.length) {r : Nat} (hr : r < 11) : opI .and .i64 (opI .shr .i64 (opI .or .i64 (opI .or .i64 (gt (rowsB (lrunB p).1) (i : Int) 0) (gt (rowsB (lrunB p).2) (i : Int) 0)) (vwr (insAt p.l (i : Int)))) (r : Int)) 1 = b2i (onP p r i) := by
  rw [plO hF hi, opI_or, bvI_toInt]
  exact bitT _ (by omega)
theorem lvT {p : Prog} (hF : Fix p (lrunB p).1 (lrunB p).2) {i : Nat} (hi : i < p.l.length) {r : Nat} (hr : r < 11) : opI .and .i64 (opI .shr .i64 (opI .or .i64 (gt (rowsB (lrunB p).1) (i : Int) 0) (gt (rowsB (lrunB p).2) (i : Int) 0)) (r : Int)) 1 = b2i (lvP p r i) := by
  rw [plO hF hi]
  exact bitT _ (by omega)
theorem alT (p : Prog) (n : Nat) {r : Nat} (hr : r < 11) : opI .and .i64 (opI .shr .i64 (alB p n).toInt (r : Int)) 1 = b2i ((alB p n).getLsbD r) := bitT _ (by omega)
theorem alS {p : Prog} (hF : Fix p (lrunB p).1 (lrunB p).2) {i : Nat} (hi : i < p.l.length) : opI .or .i64 (alB p i).toInt (opI .or .i64 (gt (rowsB (lrunB p).1) (i : Int) 0) (gt (rowsB (lrunB p).2) (i : Int) 0)) = (alB p (i + 1)).toInt := by
  rw [plO hF hi, opI_or, bvI_toInt, bvI_toInt]; rfl
theorem alB_step (p : Prog) (r i : Nat) : (alB p (i + 1)).getLsbD r = ((alB p i).getLsbD r || lvP p r i) := by
  rw [alB, BitVec.getLsbD_or]; rfl
theorem rows0 (P : List Nat) : [(0 : Int)] :: rowsN P = rowsN (0 :: P) := by simp [rowsN]
theorem last_i {P : List Nat} (h : P ≠ []) (hl : P.length ≤ 65) : opI .sub .i64 ((rowsN P).length : Int) 1 = ((P.length - 1 : Nat) : Int) := by
  have := List.length_pos_iff.2 h
  show IntKind.i64.wrap (((rowsN P).length : Int) - 1) = _
  rw [w_i64, rowsN_len]; omega
theorem last_w {P : List Nat} (h : P ≠ []) (hl : P.length ≤ 65) : opI .sub .i64 (IntKind.i64.wrap ((rowsN P).length : Int)) 1 = ((P.length - 1 : Nat) : Int) := by
  rw [show IntKind.i64.wrap ((rowsN P).length : Int) = ((rowsN P).length : Int) by rw [w_i64, rowsN_len]; omega]
  exact last_i h hl
theorem gt_last {P : List Nat} (h : P ≠ []) : gt (rowsN P) ((P.length - 1 : Nat) : Int) 0 = ((P.getLastD 0 : Nat) : Int) := by
  have := List.length_pos_iff.2 h
  rw [rowsN_at (by omega)]
  congr 1
  rw [List.getD_eq_getElem?_getD, List.getElem?_eq_getElem (by omega), Option.getD_some, List.getLastD_eq_getLast?, List.getLast?_eq_getElem?, List.getElem?_eq_getElem (by omega)]
  rfl
theorem gt_head {P : List Nat} (h : P ≠ []) : gt (rowsN P) 0 0 = frO P := by
  cases P with
  | nil => exact (h rfl).elim
  | cons x l => simp [gt, rowsN, frO]
theorem last_0 (P : List Nat) : (0 :: P).getLastD 0 = P.getLastD 0 := by cases P <;> rfl
theorem spn_f {p : Prog} {r : Nat} (h1 : r ≠ 1) (h2 : r ≠ 10) : frP r (plcs p r p.l.length) = frO (plcs p r p.l.length) := if_neg fun h => h.elim h1 h2
theorem spn_0 {p : Prog} {r : Nat} (h : r = 1 ∨ r = 10) : frP r (plcs p r p.l.length) = 0 := if_pos h
theorem frO_app {P : List Nat} (n : Nat) (h : P ≠ []) : frO (P ++ [n]) = frO P := by
  cases P with
  | nil => exact (h rfl).elim
  | cons x l => rfl
theorem frO_neg {P : List Nat} : frO P < 0 ↔ P = [] := by
  cases P with
  | nil => simp [frO]
  | cons x l => simp [frO]
theorem last_app (P : List Nat) (n : Nat) : (P ++ [n]).getLastD 0 = n := by simp [List.getLastD_eq_getLast?]
/-! ### Rows alike -/
theorem row4_at {a : List (List Int)} (h : RowsIn [some .i64, some .i64, some .i64, none] a) {j : Nat} (hj : j < a.length) : a[j]? = some [gt a (j : Int) 0, gt a (j : Int) 1, gt a (j : Int) 2, b2i (gt a (j : Int) 3 == 1)] := by
  have h1 := h.row _ (List.getElem_mem hj)
  rw [List.getElem?_eq_getElem hj]
  congr 1
  have h2 := rowIn_length h1
  rcases he : a[j] with _ | ⟨x, _ | ⟨y, _ | ⟨z, _ | ⟨t, _ | ⟨u, l⟩⟩⟩⟩⟩
  · rw [he] at h2; simp at h2
  · rw [he] at h2; simp at h2
  · rw [he] at h2; simp at h2
  · rw [he] at h2; simp at h2
  · rw [he] at h1
    simp only [rowIn, inCE, Bool.and_eq_true, Bool.and_true] at h1
    have h3 : t = 0 ∨ t = 1 := by simpa using h1.2.2.2
    simp only [gt, List.getD_eq_getElem?_getD, Int.toNat_natCast, List.getElem?_eq_getElem hj, he, Option.getD_some, List.getElem?_cons_zero, List.getElem?_cons_succ]
    rcases h3 with rfl | rfl <;> rfl
  · rw [he] at h2; simp at h2
theorem take_step4 {a b : List (List Int)} (ha : RowsIn [some .i64, some .i64, some .i64, none] a) (hb : RowsIn [some .i64, some .i64, some .i64, none] b) {j : Nat} (h : a.take j = b.take j) (h1 : j < a.length) (h2 : j < b.length) (e0 : gt a (j : Int) 0 = gt b (j : Int) 0) (e1 : gt a (j : Int) 1 = gt b (j : Int) 1) (e2 : gt a (j : Int) 2 = gt b (j : Int) 2) (e3 : (gt a (j : Int) 3 == 1) = (gt b (j : Int) 3 == 1)) : a.take (j + 1) = b.take (j + 1) := by
  rw [List.take_add_one, List.take_add_one, h, row4_at ha h1, row4_at hb h2, e0, e1, e2, e3]
theorem srun_wakes : srun ⟨0, [[0, 11, 64, 0, 1, 0, 1, 0, 0], [6, 0, 0, 0, 0, 0, 0, 0, 0]]⟩ = ([[0, 0, 1, 0], [1, 0, 0, 0]], 0) := by kernel_rfl
end Go.Proofs.Ytmkaphfdgdkaoaa
