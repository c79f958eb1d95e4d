/- The plain law of latheref19.Run: rounds downwards, written in place, end where live.Run's end. No walk is in here. -/
import Derived.Test.YtmkaphfdgdkaoaaLiN
set_option linter.unusedSimpArgs false
set_option linter.unusedVariables false
set_option linter.unusedVariables false
set_option linter.unusedSimpArgs false
namespace Go.Proofs.Ytmkaphfdgdkaoaa
open Go Go.RowKit

def oN (p : Prog) (I : List BV) (i : Nat) : BV := orB I (nx p i) 0
def aN (p : Prog) (I : List BV) (i : Nat) : BV := (oN p I i &&& ~~~ wB p i) ||| rB p i
theorem aN_bit {p : Prog} {I : List BV} {i k : Nat} (hk : k < 64) : (aN p I i).getLsbD k = true ↔ (oN p I i).getLsbD k = true ∧ (wB p i).getLsbD k = false ∨ (rB p i).getLsbD k = true := by
  unfold aN
  rw [BitVec.getLsbD_or, BitVec.getLsbD_and, BitVec.getLsbD_not]
  simp [hk]
theorem oN_mono {p : Prog} {I J : List BV} {i : Nat} (h : ∀ m, sub (I.getD m 0) (J.getD m 0)) : sub (oN p I i) (oN p J i) := fun k hk => by
  rcases (orB_bit _ _ _ _).1 hk with h1 | ⟨m, h1, h2⟩
  · simp at h1
  · exact (orB_bit _ _ _ _).2 (.inr ⟨m, h1, h m k h2⟩)
theorem aN_mono {p : Prog} {I J : List BV} {i : Nat} (h : ∀ m, sub (I.getD m 0) (J.getD m 0)) : sub (aN p I i) (aN p J i) := fun k hk => by
  refine (aN_bit (bit_lt hk)).2 ?_
  rcases (aN_bit (bit_lt hk)).1 hk with ⟨h1, h2⟩ | h1
  · exact .inl ⟨oN_mono h k h1, h2⟩
  · exact .inr h1
theorem getD_set (L : List BV) (i : Nat) (X : BV) (hi : i < L.length) (j : Nat) : (L.set i X).getD j 0 = if i = j then X else L.getD j 0 := by
  simp only [List.getD_eq_getElem?_getD, List.getElem?_set]
  split
  · simp [hi]
  · rfl
theorem sub_rfl (a : BV) : sub a a := fun _ h => h
structure DInv (p : Prog) (I O : List BV) : Prop where
  li : I.length = p.l.length
  lo : O.length = p.l.length
  low : Low p I O
  oo : ∀ i, i < p.l.length → sub (O.getD i 0) (oN p I i)
  ii : ∀ i, i < p.l.length → sub (I.getD i 0) (aN p I i)
theorem DInv.zero (p : Prog) : DInv p (List.replicate p.l.length 0) (List.replicate p.l.length 0) where
  li := by simp
  lo := by simp
  low := .zero p
  oo := fun i hi k h => by simp [hi] at h
  ii := fun i hi k h => by simp [hi] at h
theorem DInv.grow {p : Prog} {I O : List BV} (h : DInv p I O) {i : Nat} (hi : i < p.l.length) (m : Nat) : sub (I.getD m 0) ((I.set i (aN p I i)).getD m 0) := by
  rw [getD_set _ _ _ (h.li ▸ hi)]
  split
  · rename_i e; exact e ▸ h.ii i hi
  · exact sub_rfl _
theorem DInv.put {p : Prog} {I O : List BV} (hx : ∀ i, i < p.l.length → ∀ m, m ∈ nx p i → m < p.l.length) (h : DInv p I O) {i : Nat} (hi : i < p.l.length) : DInv p (I.set i (aN p I i)) (O.set i (oN p I i)) where
  li := by simp [h.li]
  lo := by simp [h.lo]
  low := fun A B hF j hj => by
    have ho : sub (oN p I i) (B.getD i 0) := fun k hk => by
      rw [hF.oo i hi]
      rcases (orB_bit _ _ _ _).1 hk with h1 | ⟨m, h1, h2⟩
      · simp at h1
      · exact (orB_bit _ _ _ _).2 (.inr ⟨m, h1, (h.low A B hF m (hx i hi m h1)).1 k h2⟩)
    rw [getD_set _ _ _ (h.li ▸ hi), getD_set _ _ _ (h.lo ▸ hi)]
    by_cases e : i = j
    · subst e
      rw [if_pos rfl, if_pos rfl]
      refine ⟨fun k hk => ?_, ho⟩
      rw [hF.ii i hi]
      refine (liB_bit (bit_lt hk)).2 ?_
      rcases (aN_bit (bit_lt hk)).1 hk with ⟨h1, h2⟩ | h1
      · exact .inl ⟨ho k h1, h2⟩
      · exact .inr h1
    · rw [if_neg e, if_neg e]
      exact h.low A B hF j hj
  oo := fun j hj => by
    rw [getD_set _ _ _ (h.lo ▸ hi)]
    split
    · rename_i e; exact e ▸ oN_mono (h.grow hi)
    · exact fun k hk => oN_mono (h.grow hi) k (h.oo j hj k hk)
  ii := fun j hj => by
    rw [getD_set _ _ _ (h.li ▸ hi)]
    split
    · rename_i e; exact e ▸ aN_mono (h.grow hi)
    · exact fun k hk => aN_mono (h.grow hi) k (h.ii j hj k hk)
theorem sub_set {L : List BV} {i : Nat} {X : BV} (hi : i < L.length) (h : sub (L.getD i 0) X) : muB (L.set i X) ≤ muB L ∧ (L.set i X ≠ L → muB (L.set i X) < muB L) :=
  leL_mu (leL_of (by simp) fun j _ => by
    rw [getD_set _ _ _ hi]
    split
    · rename_i e; exact e ▸ h
    · exact sub_rfl _)
theorem DInv.mu {p : Prog} {I O : List BV} (h : DInv p I O) {i : Nat} (hi : i < p.l.length) : muB (I.set i (aN p I i)) + muB (O.set i (oN p I i)) ≤ muB I + muB O ∧ (aN p I i ≠ I.getD i 0 ∨ oN p I i ≠ O.getD i 0 → muB (I.set i (aN p I i)) + muB (O.set i (oN p I i)) < muB I + muB O) := by
  have h1 := sub_set (X := aN p I i) (h.li.symm ▸ hi) (h.ii i hi)
  have h2 := sub_set (X := oN p I i) (h.lo.symm ▸ hi) (h.oo i hi)
  refine ⟨by omega, fun hn => ?_⟩
  rcases hn with hn | hn
  · have := h1.2 fun e => hn (by rw [← e, getD_set _ _ _ (h.li.symm ▸ hi), if_pos rfl, e])
    omega
  · have := h2.2 fun e => hn (by rw [← e, getD_set _ _ _ (h.lo.symm ▸ hi), if_pos rfl])
    omega
/-- A round under way: the places from m on are done. -/
structure Dn (p : Prog) (I₀ O₀ : List BV) (m : Nat) (b : Bool) (I O : List BV) : Prop where
  inv : DInv p I O
  no : b = false → I = I₀ ∧ O = O₀ ∧ ∀ j, m ≤ j → j < p.l.length → I₀.getD j 0 = aN p I₀ j ∧ O₀.getD j 0 = oN p I₀ j
  mu : muB I + muB O ≤ muB I₀ + muB O₀
  lt : b = true → muB I + muB O < muB I₀ + muB O₀
theorem Dn.init {p : Prog} {I O : List BV} (h : DInv p I O) : Dn p I O p.l.length false I O :=
  ⟨h, fun _ => ⟨rfl, rfl, fun j h1 h2 => by omega⟩, Nat.le_refl _, fun h => by cases h⟩
theorem Dn.step {p : Prog} {I₀ O₀ : List BV} {m : Nat} {b b' : Bool} {I O : List BV} (hx : ∀ i, i < p.l.length → ∀ m, m ∈ nx p i → m < p.l.length) (h : Dn p I₀ O₀ (m + 1) b I O) (hm : m < p.l.length)
    (hb : b' = true ↔ b = true ∨ aN p I m ≠ I.getD m 0 ∨ oN p I m ≠ O.getD m 0) : Dn p I₀ O₀ m b' (I.set m (aN p I m)) (O.set m (oN p I m)) := by
  have hmu := h.inv.mu hm
  refine ⟨h.inv.put hx hm, fun e => ?_, Nat.le_trans hmu.1 h.mu, fun e => ?_⟩
  · have hb1 : ¬ (b = true ∨ aN p I m ≠ I.getD m 0 ∨ oN p I m ≠ O.getD m 0) := fun q => by rw [hb.2 q] at e; cases e
    have q0 : b = false := Bool.eq_false_iff.2 fun q => hb1 (.inl q)
    have q1 : aN p I m = I.getD m 0 := Classical.byContradiction fun q => hb1 (.inr (.inl q))
    have q2 : oN p I m = O.getD m 0 := Classical.byContradiction fun q => hb1 (.inr (.inr q))
    obtain ⟨e1, e2, e3⟩ := h.no q0
    have s1 : I.set m (aN p I m) = I := by
      rw [q1]; refine List.ext_getElem (by simp) fun i h1 h2 => ?_
      rw [List.getElem_set]; split
      · rename_i e; subst e; simp [h2]
      · rfl
    have s2 : O.set m (oN p I m) = O := by
      rw [q2]; refine List.ext_getElem (by simp) fun i h1 h2 => ?_
      rw [List.getElem_set]; split
      · rename_i e; subst e; simp [h2]
      · rfl
    refine ⟨s1.trans e1, s2.trans e2, fun j h1 h2 => ?_⟩
    rcases Nat.lt_or_ge m j with h3 | h3
    · exact e3 j h3 h2
    · obtain rfl : j = m := by omega
      rw [← e1, ← e2]
      exact ⟨q1.symm, q2.symm⟩
  · rcases hb.1 e with q | q
    · exact Nat.lt_of_le_of_lt hmu.1 (h.lt q)
    · exact Nat.lt_of_lt_of_le (hmu.2 q) h.mu
theorem DInv.rd {p : Prog} {I O : List BV} (hl : p.l.length ≤ 64) (h : DInv p I O) : ∀ i k, (I.getD i 0).getLsbD k = true → ∃ j, j < p.l.length ∧ (rB p j).getLsbD k = true := fun i k hk => by
  rcases Nat.lt_or_ge i p.l.length with hi | hi
  · exact (lrunB_fix hl).rd i k ((h.low _ _ (lrunB_fix hl) i hi).1 k hk)
  · simp [List.getD, List.getElem?_eq_none (h.li ▸ hi)] at hk
theorem Dn.fix {p : Prog} {I₀ O₀ I O : List BV} (hl : p.l.length ≤ 64) (h : Dn p I₀ O₀ 0 false I O) : Fix p I O := by
  obtain ⟨rfl, rfl, e⟩ := h.no rfl
  refine ⟨h.inv.li, h.inv.lo, fun i hi => ?_, fun i hi => (e i (Nat.zero_le _) hi).2, h.inv.rd hl⟩
  rw [(e i (Nat.zero_le _) hi).1]
  unfold liB aN
  rw [(e i (Nat.zero_le _) hi).2]
/-- Ahead of a round: either another one is asked for, or all is done. -/
structure Dh (p : Prog) (b : Bool) (I O : List BV) : Prop where
  inv : DInv p I O
  fin : b = false → Fix p I O
theorem Dh.init (p : Prog) : Dh p true (List.replicate p.l.length 0) (List.replicate p.l.length 0) := ⟨.zero p, fun h => by cases h⟩
theorem Dn.head {p : Prog} {I₀ O₀ I O : List BV} {b : Bool} (hl : p.l.length ≤ 64) (h : Dn p I₀ O₀ 0 b I O) : Dh p b I O :=
  ⟨h.inv, fun e => by subst e; exact h.fix hl⟩
def muD (b : Bool) (L M : List (List Int)) : Nat := (if b = true then 1 else 0) + (mu L + mu M)
theorem Dn.less {p : Prog} {I₀ O₀ I O : List BV} {b : Bool} (h : Dn p I₀ O₀ 0 b I O) : muD b (rowsB I) (rowsB O) < muD true (rowsB I₀) (rowsB O₀) := by
  unfold muD
  simp only [mu_rows]
  cases b with
  | false => have := h.mu; simp; omega
  | true => have := h.lt rfl; simp; omega
theorem Dh.is {p : Prog} (hl : p.l.length ≤ 64) (hx : ∀ i, i < p.l.length → ∀ m, m ∈ nx p i → m < p.l.length) {I O : List BV} (h : Dh p false I O) : I = (lrunB p).1 ∧ O = (lrunB p).2 :=
  lrunB_is hl hx (h.fin rfl) h.inv.low
/-- What is written: as the program reckons it. -/
theorem aN_op {p : Prog} {I : List BV} {m : Nat} : opI .or .i64 (opI .andNot .i64 (oN p I m).toInt (vwr (insAt p.l m))) (vrd (insAt p.l m)) = (aN p I m).toInt := by
  rw [opI_or, opI_andNot, bvI_toInt, bvI_toInt]
  rfl
theorem toInt_ne {a b : BV} : a.toInt ≠ b.toInt ↔ a ≠ b := ⟨fun h e => h (by rw [e]), fun h e => h (BitVec.eq_of_toInt_eq e)⟩
theorem Dn.step_b {p : Prog} {I₀ O₀ : List BV} {m : Nat} {b : Bool} {I O : List BV} (hx : ∀ i, i < p.l.length → ∀ m, m ∈ nx p i → m < p.l.length) (h : Dn p I₀ O₀ (m + 1) b I O) (hm : m < p.l.length) (c : b = true) : Dn p I₀ O₀ m true (I.set m (aN p I m)) (O.set m (oN p I m)) :=
  h.step hx hm ⟨fun _ => .inl c, fun _ => rfl⟩
theorem Dn.step_a {p : Prog} {I₀ O₀ : List BV} {m : Nat} {b : Bool} {I O : List BV} (hx : ∀ i, i < p.l.length → ∀ m, m ∈ nx p i → m < p.l.length) (h : Dn p I₀ O₀ (m + 1) b I O) (hm : m < p.l.length) (c : ((aN p I m).toInt == gt (rowsB I) (m : Int) 0) = false) : Dn p I₀ O₀ m true (I.set m (aN p I m)) (O.set m (oN p I m)) :=
  h.step hx hm ⟨fun _ => .inr (.inl (by rw [gt_rowsB (h.inv.li.symm ▸ hm)] at c; exact toInt_ne.1 (neI c))), fun _ => rfl⟩
theorem Dn.step_o {p : Prog} {I₀ O₀ : List BV} {m : Nat} {b : Bool} {I O : List BV} (hx : ∀ i, i < p.l.length → ∀ m, m ∈ nx p i → m < p.l.length) (h : Dn p I₀ O₀ (m + 1) b I O) (hm : m < p.l.length) (c0 : b = false) (c : ((aN p I m).toInt == gt (rowsB I) (m : Int) 0) = true) : Dn p I₀ O₀ m (!((oN p I m).toInt == gt (rowsB O) (m : Int) 0)) (I.set m (aN p I m)) (O.set m (oN p I m)) :=
  h.step hx hm (by
    rw [gt_rowsB (h.inv.li.symm ▸ hm)] at c
    rw [gt_rowsB (h.inv.lo.symm ▸ hm)]
    have ha := BitVec.eq_of_toInt_eq (eqI c)
    simp only [Bool.not_eq_true', beq_eq_false_iff_ne, c0, Bool.false_eq_true, false_or]
    rw [toInt_ne]
    exact ⟨.inr, fun q => q.elim (fun q => (q ha).elim) id⟩)
theorem subN {k m : Nat} (h : k < m) (hm : m ≤ maxLen) : opI .sub .i64 (k : Int) 1 = (k : Int) - 1 := by
  show IntKind.i64.wrap ((k : Int) - 1) = _
  rw [w_i64]; simp [maxLen] at hm; omega
theorem sub_meas (k : Nat) : ((k : Int) - 1 + 1).toNat < ((k : Int) + 1).toNat := by omega
end Go.Proofs.Ytmkaphfdgdkaoaa
