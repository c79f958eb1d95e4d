/- A register's span among spans; what spans of a program hold. No walk is in here. -/
import Derived.Test.YtmkaphfdgdkaoaaSpA
set_option linter.unusedSimpArgs false
set_option linter.unusedVariables false
set_option linter.unusedVariables false
set_option linter.unusedSimpArgs false
namespace Go.Proofs.Ytmkaphfdgdkaoaa
open Go Go.RowKit

def sofk (l : List (List Int)) (r : Int) : Nat := l.findIdx fun q => q.getD 0 0 == r
def sOf (l : List (List Int)) (r : Int) : Span × Bool := if sofk l r < l.length then (spanAt l (sofk l r : Nat), true) else (⟨0, 0, 0, false⟩, false)
theorem gt_0 (l : List (List Int)) (i : Nat) (h : i < l.length) : gt l (i : Int) 0 = l[i].getD 0 0 := by
  simp [gt, List.getElem?_eq_getElem h]
theorem sofk_is {l : List (List Int)} {r : Int} {j : Nat} (h : ∀ i, i < j → gt l (i : Int) 0 ≠ r) (hj : j < l.length) (e : gt l (j : Int) 0 = r) : sofk l r = j := by
  unfold sofk
  rw [List.findIdx_eq hj]
  rw [gt_0 l j hj] at e
  refine ⟨by simpa using e, fun i hi => ?_⟩
  have := h i hi
  rw [gt_0 l i (by omega)] at this
  simpa using this
theorem sof_y {l : List (List Int)} {r : Int} {j : Nat} (h : ∀ i, i < j → gt l (i : Int) 0 ≠ r) (hj : j < l.length) (e : gt l (j : Int) 0 = r) : sOf l r = (spanAt l (j : Int), true) := by
  unfold sOf
  rw [sofk_is h hj e, if_pos hj]
theorem sof_n {l : List (List Int)} {r : Int} {j : Nat} (h : ∀ i, i < j → gt l (i : Int) 0 ≠ r) (hj : ¬ j < l.length) : sOf l r = (⟨0, 0, 0, false⟩, false) := by
  unfold sOf
  rw [if_neg]
  intro hk
  have h1 := List.findIdx_getElem (xs := l) (p := fun q : List Int => q.getD 0 0 == r) (w := hk)
  have h2 := h _ (show sofk l r < j by omega)
  rw [gt_0 l _ hk] at h2
  exact h2 (eq_of_beq h1)
theorem fst_step {l : List (List Int)} {r : Int} {j : Nat} (h : ∀ i, i < j → gt l (i : Int) 0 ≠ r) (e : gt l (j : Int) 0 ≠ r) : ∀ i, i < j + 1 → gt l (i : Int) 0 ≠ r := fun i hi => by
  by_cases hj : i = j
  · rw [hj]; exact e
  · exact h i (by omega)
def sMeet (a b : Span) : Bool := decide (a.fr ≤ a.to ∧ b.fr ≤ b.to ∧ max a.fr b.fr ≤ min a.to b.to)

theorem subNN {i : Nat} (h : 0 < i) (hm : i ≤ maxLen) : opI .sub .i64 (i : Int) 1 = ((i - 1 : Nat) : Int) := by
  show IntKind.i64.wrap ((i : Int) - 1) = _
  rw [w_i64]
  unfold maxLen at hm
  omega
theorem srun_ee (p : Prog) : (srun p).2 = (icheck p).2 := by
  unfold srun
  split
  · rename_i h; exact h.symm
  · rfl
/-! ### The spans of a program -/
def lvr (p : Prog) (r : Nat) : Bool := (alB p p.l.length).getLsbD r
def toP (p : Prog) (r : Nat) : Int := (((plcs p r p.l.length).getLastD 0 : Nat) : Int)
def frI (p : Prog) (r : Nat) : Int := frP r (plcs p r p.l.length)
def spanP (p : Prog) (r : Nat) : Span := ⟨r, frI p r, toP p r, lcross p r⟩
theorem lspans_eq (p : Prog) : ∀ n, lspans p n = ((List.range n).filter (lvr p)).map (spn p)
  | 0 => rfl
  | n + 1 => by
    rw [lspans, lspans_eq p n, List.range_succ, List.filter_append, List.map_append]
    show (if lvr p n = true then _ else _) = _
    cases h : lvr p n <;> simp [h]
theorem lspans_at {p : Prog} {n i : Nat} (h : i < (lspans p n).length) : ∃ r, r < n ∧ lvr p r = true ∧ (lspans p n)[i]? = some (spn p r) := by
  have h1 : (lspans p n)[i] ∈ ((List.range n).filter (lvr p)).map (spn p) := by rw [← lspans_eq]; exact List.getElem_mem h
  obtain ⟨r, h2, h3⟩ := List.mem_map.1 h1
  rw [List.mem_filter, List.mem_range] at h2
  exact ⟨r, h2.1, h2.2, by rw [List.getElem?_eq_getElem h, h3]⟩
theorem lspans_has {p : Prog} {n r : Nat} (h : r < n) (hr : lvr p r = true) : spn p r ∈ lspans p n := by
  rw [lspans_eq]
  exact List.mem_map.2 ⟨r, List.mem_filter.2 ⟨List.mem_range.2 h, hr⟩, rfl⟩
theorem spn_reg (p : Prog) (r : Nat) : (spn p r).getD 0 0 = (r : Int) := rfl
theorem lspans_up {p : Prog} {n i j r s : Nat} (h : i < j) (hi : (lspans p n)[i]? = some (spn p r)) (hj : (lspans p n)[j]? = some (spn p s)) : r < s := by
  have hp : (lspans p n).Pairwise fun a b => a.getD 0 0 < b.getD 0 0 := by
    rw [lspans_eq, List.pairwise_map]
    exact (List.pairwise_lt_range.filter _).imp fun h => by rw [spn_reg, spn_reg]; omega
  obtain ⟨h1, h2⟩ := List.getElem?_eq_some_iff.1 hi
  obtain ⟨h3, h4⟩ := List.getElem?_eq_some_iff.1 hj
  have := List.pairwise_iff_getElem.1 hp i j h1 h3 h
  rw [h2, h4, spn_reg, spn_reg] at this
  omega
theorem gt_spn {p : Prog} {l : List (List Int)} {i r : Nat} (h : l[i]? = some (spn p r)) : gt l (i : Int) 0 = (r : Int) ∧ gt l (i : Int) 1 = frI p r ∧ gt l (i : Int) 2 = toP p r ∧ gt l (i : Int) 3 = b2i (lcross p r) := by
  simp only [gt, Int.toNat_natCast, List.getD_eq_getElem?_getD, h]
  exact ⟨rfl, rfl, rfl, rfl⟩
theorem spanAt_spn {p : Prog} {l : List (List Int)} {i r : Nat} (h : l[i]? = some (spn p r)) : spanAt l (i : Int) = spanP p r := by
  obtain ⟨h0, h1, h2, h3⟩ := gt_spn h
  unfold spanAt spanP
  rw [h0, h1, h2, h3, b2i_1]
theorem sof_l (p : Prog) {r : Nat} (h : r < 11) : sOf (lspans p 11) (r : Int) = if lvr p r = true then (spanP p r, true) else (⟨0, 0, 0, false⟩, false) := by
  by_cases hr : lvr p r = true
  · rw [if_pos hr]
    obtain ⟨i, hi, he⟩ := List.mem_iff_getElem.1 (lspans_has (n := 11) h hr)
    have hg : (lspans p 11)[i]? = some (spn p r) := by rw [List.getElem?_eq_getElem hi, he]
    rw [sof_y (j := i) (fun k hk => ?_) hi (gt_spn hg).1, spanAt_spn hg]
    obtain ⟨s, h1, h2, h3⟩ := lspans_at (p := p) (n := 11) (i := k) (by omega)
    have := lspans_up hk h3 hg
    rw [(gt_spn h3).1]
    omega
  · rw [if_neg hr]
    refine sof_n (j := (lspans p 11).length) (fun k hk => ?_) (Nat.lt_irrefl _)
    obtain ⟨s, h1, h2, h3⟩ := lspans_at hk
    rw [(gt_spn h3).1]
    intro e
    exact hr (by rw [← Int.ofNat.inj e]; exact h2)
/-! ### Places within a span -/
theorem plcs_in (p : Prog) (r : Nat) : ∀ n x, x ∈ plcs p r n → frO (plcs p r n) ≤ (x : Int) ∧ x ≤ (plcs p r n).getLastD 0
  | 0, x, h => by cases h
  | n + 1, x, h => by
    have hx := (plcs_mem p r (n + 1) x).1 h
    by_cases ho : onP p r n = true
    · rw [plcs_y ho] at h ⊢
      rw [last_app]
      rw [List.mem_append, List.mem_singleton] at h
      rcases h with h | rfl
      · obtain ⟨h1, h2⟩ := plcs_in p r n x h
        rw [frO_app n (fun e => by rw [e] at h; cases h)]
        exact ⟨h1, by omega⟩
      · refine ⟨?_, Nat.le_refl _⟩
        by_cases e : plcs p r x = []
        · rw [e]; exact Int.le_refl _
        · rw [frO_app x e]
          cases hl : plcs p r x with
          | nil => exact (e hl).elim
          | cons y l =>
            have := ((plcs_mem p r x y).1 (by rw [hl]; exact List.mem_cons_self)).1
            show (y : Int) ≤ x
            omega
    · rw [plcs_n (by simpa using ho)] at h ⊢
      exact plcs_in p r n x h
theorem last_in {P : List Nat} (h : P ≠ []) : P.getLastD 0 ∈ P := by
  rw [List.getLastD_eq_getLast?, List.getLast?_eq_some_getLast h]
  exact List.getLast_mem h
theorem first_in {P : List Nat} (h : P ≠ []) : ∃ x, x ∈ P ∧ frO P = (x : Int) := by
  cases P with
  | nil => exact (h rfl).elim
  | cons x l => exact ⟨x, List.mem_cons_self, rfl⟩
theorem frP_le {r : Nat} {P : List Nat} (h : P ≠ []) : frP r P ≤ frO P := by
  unfold frP
  split
  · obtain ⟨x, _, e⟩ := first_in h; rw [e]; omega
  · exact Int.le_refl _
theorem frI_0 {p : Prog} {r : Nat} (h : lvr p r = true) : 0 ≤ frI p r := by
  unfold frI frP
  split
  · exact Int.le_refl _
  · obtain ⟨x, _, e⟩ := first_in (plcs_ne h); rw [e]; omega
/-- What a live register's span has. -/
theorem span_on {p : Prog} {r i : Nat} (hi : i < p.l.length) (ho : onP p r i = true) (h : lvr p r = true) : frI p r ≤ (i : Int) ∧ (i : Int) ≤ toP p r := by
  have hm := (plcs_mem p r p.l.length i).2 ⟨hi, ho⟩
  have := plcs_in p r _ i hm
  have h2 := frP_le (r := r) (plcs_ne h)
  unfold frI toP
  omega
theorem span_whole {p : Prog} {r : Nat} (h : lvr p r = true) : frI p r ≤ toP p r ∧ toP p r < (p.l.length : Int) := by
  have hm := last_in (plcs_ne h)
  have h1 := (plcs_mem p r p.l.length _).1 hm
  have h2 := span_on h1.1 h1.2 h
  unfold toP at *
  omega
theorem lv_lvr {p : Prog} {r i : Nat} (hi : i < p.l.length) (h : lvP p r i = true) : lvr p r = true := (alB_bit p r _).2 ⟨i, hi, h⟩
theorem on_lv {p : Prog} {r i : Nat} (h : lvP p r i = true) : onP p r i = true := on_of_lv h
theorem onP_eq (p : Prog) (r i : Nat) : onP p r i = (lvP p r i || (wB p i).getLsbD r) := by
  unfold onP lvP; rw [BitVec.getLsbD_or]
theorem bit1_toInt (n : Int) : bit1 n = (bvI (bit1 n)).toInt := by
  exact (bvI_in (inK_wrap .i64 _)).symm
theorem vwr_toInt (p : Prog) (i : Nat) : vwr (insAt p.l (i : Int)) = (wB p i).toInt := by
  unfold wB vwr
  split
  · split
    · exact bit1_toInt _
    · split <;> rfl
  · rfl
theorem wrT (p : Prog) (i : Nat) {r : Nat} (hr : r < 11) : opI .and .i64 (opI .shr .i64 (vwr (insAt p.l (i : Int))) (r : Int)) 1 = b2i ((wB p i).getLsbD r) := by
  have h : vwr (insAt p.l (i : Int)) = (wB p i).toInt := (vwr_toInt p i)
  rw [h]
  exact bitT _ (by omega)
/-- Of a span as `Of` tells it. -/
structure P1 (p : Prog) (r i : Nat) (s : Span × Bool) : Prop where
  lv : lvP p r i = true → s.2 = true
  lo : s.2 = true → onP p r i = true → s.1.fr ≤ (i : Int)
  hi : s.2 = true → onP p r i = true → (i : Int) ≤ s.1.to
  nf : s.2 = true → onP p r i = false → r ≠ 1 → r ≠ 10 → (i : Int) ≠ s.1.fr
  nf' : s.2 = true → onP p r i = false → 0 < i → (i : Int) ≠ s.1.fr
  nt : s.2 = true → onP p r i = false → (i : Int) ≠ s.1.to
theorem p1_of (p : Prog) {r i : Nat} (hr : r < 11) (hi : i < p.l.length) : P1 p r i (sOf (lspans p 11) (r : Int)) := by
  rw [sof_l p hr]
  by_cases h : lvr p r = true
  · rw [if_pos h]
    have nf0 : onP p r i = false → (i : Int) ≠ frO (plcs p r p.l.length) := fun ho e => by
      obtain ⟨x, h1, h2⟩ := first_in (plcs_ne h)
      rw [h2] at e
      have := (plcs_mem p r _ x).1 h1
      rw [← Int.ofNat.inj e, ho] at this
      exact Bool.noConfusion this.2
    refine ⟨fun _ => rfl, fun _ ho => (span_on hi ho h).1, fun _ ho => (span_on hi ho h).2, fun _ ho h1 h2 => ?_, fun _ ho h0 => ?_, fun _ ho e => ?_⟩
    · show (i : Int) ≠ frP r _
      rw [spn_f h1 h2]; exact nf0 ho
    · show (i : Int) ≠ frP r _
      by_cases hc : r = 1 ∨ r = 10
      · rw [spn_0 hc]; omega
      · rw [spn_f (fun e => hc (.inl e)) (fun e => hc (.inr e))]; exact nf0 ho
    · have := (plcs_mem p r _ _).1 (last_in (plcs_ne h))
      have e2 : i = (plcs p r p.l.length).getLastD 0 := Int.ofNat.inj e
      rw [← e2, ho] at this
      exact Bool.noConfusion this.2
  · rw [if_neg h]
    exact ⟨fun hl => (h (lv_lvr hi hl)).elim, fun e => Bool.noConfusion e, fun e => Bool.noConfusion e, fun e => Bool.noConfusion e, fun e => Bool.noConfusion e, fun e => Bool.noConfusion e⟩
theorem meet_on {p : Prog} {r s j : Nat} (hj : j < p.l.length) (h1 : lvr p r = true) (h2 : lvr p s = true) (o1 : onP p r j = true) (o2 : onP p s j = true) : sMeet (spanP p r) (spanP p s) = true := by
  have a := span_on hj o1 h1
  have b := span_on hj o2 h2
  have c := span_whole h1
  have d := span_whole h2
  unfold sMeet spanP
  exact decide_eq_true ⟨c.1, d.1, by simp only; omega⟩
end Go.Proofs.Ytmkaphfdgdkaoaa
