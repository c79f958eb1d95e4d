/- Giving spans homes, in plain words: spans in their order, homes, what is let be. No walk is in here. -/
import Derived.Test.YtoaffiooliclgaaSyA
set_option linter.unusedSimpArgs false
set_option linter.unusedVariables false
set_option linter.unusedVariables false
set_option linter.unusedSimpArgs false
namespace Go.Proofs.Ytoaffiooliclgaa
open Go Go.RowKit

structure Span where
  reg : Int
  fr : Int
  to : Int
  ov : Bool
structure Place where
  kd : Int
  n : Int
abbrev Row := List Int
def rg (r : Row) : Int := r.getD 0 0
def fr (r : Row) : Int := r.getD 1 0
def tt (r : Row) : Int := r.getD 2 0
def ov (r : Row) : Bool := r.getD 3 0 == 1
def spR (r : Row) : Span := ⟨rg r, fr r, tt r, ov r⟩
def spanAt (l : List Row) (i : Int) : Span := ⟨gt l i 0, gt l i 1, gt l i 2, gt l i 3 == 1⟩
theorem spanAt_mk (l : List Row) (i : Int) : (⟨gt l i 0, gt l i 1, gt l i 2, gt l i 3 == 1⟩ : Span) = spanAt l i := rfl
theorem spanAt_row (l : List Row) (i : Nat) : spanAt l (i : Int) = spR (l.getD i []) := rfl
def cmpI (a b : Int) : Int := if a < b then -1 else if b < a then 1 else 0
def orI (a b : Int) : Int := if a = 0 then b else a
def aC1 (a b : Span) : Int := orI (cmpI a.fr b.fr) (cmpI a.reg b.reg)
def aC2 (a b : Span) : Int := orI (cmpI a.to b.to) (cmpI a.reg b.reg)
/-- Ahead in the order. -/
def rlt (a b : Row) : Prop := aC1 (spR a) (spR b) < 0
instance (a b : Row) : Decidable (rlt a b) := inferInstanceAs (Decidable (_ < _))
theorem rlt_iff {a b : Row} : rlt a b ↔ fr a < fr b ∨ fr a = fr b ∧ rg a < rg b := by
  unfold rlt aC1 orI cmpI spR
  dsimp only
  (repeat' split) <;> omega
def rle (a b : Row) : Prop := ¬ rlt b a
theorem rle_iff {a b : Row} : rle a b ↔ fr a < fr b ∨ fr a = fr b ∧ rg a ≤ rg b := by
  unfold rle; rw [rlt_iff]; omega
theorem rle_of {a b : Row} (h : rlt a b) : rle a b := by rw [rlt_iff] at h; rw [rle_iff]; omega
theorem rle_trans {a b c : Row} (h : rle a b) (h' : rle b c) : rle a c := by rw [rle_iff] at *; omega

/-! ### Insertion, as the program sorts -/
def swp (L : List Row) (j : Nat) : List Row := (L.set (j + 1) (L.getD j [])).set j (L.getD (j + 1) [])
def sink : Nat → List Row → List Row
  | 0, L => L
  | j + 1, L => if rlt (L.getD (j + 1) []) (L.getD j []) then sink j (swp L j) else L
def srtN (L : List Row) : Nat → List Row
  | 0 => L
  | i + 1 => sink (i + 1) (srtN L i)
def srt (L : List Row) : List Row := srtN L (L.length - 1)
theorem swp_len (L : List Row) (j : Nat) : (swp L j).length = L.length := by simp [swp]
theorem sink_len : ∀ (j : Nat) (L : List Row), (sink j L).length = L.length
  | 0, L => rfl
  | j + 1, L => by
    unfold sink
    split
    · rw [sink_len j, swp_len]
    · rfl
theorem srtN_len (L : List Row) : ∀ i, (srtN L i).length = L.length
  | 0 => rfl
  | i + 1 => by rw [srtN, sink_len, srtN_len L i]

def insZ : List Row → Row → List Row → List Row
  | [], x, B => x :: B
  | y :: R, x, B => if rlt x y then insZ R x (y :: B) else (y :: R).reverse ++ x :: B
theorem sink_ins : ∀ (R : List Row) (x : Row) (B : List Row), sink R.length (R.reverse ++ x :: B) = insZ R x B
  | [], x, B => rfl
  | y :: R, x, B => by
    have e : (y :: R).reverse ++ x :: B = R.reverse ++ y :: x :: B := by simp
    have h1 : (R.reverse ++ y :: x :: B).getD (R.length + 1) [] = x := by
      rw [List.getD_eq_getElem?_getD, List.getElem?_append_right (by simp)]; simp
    have h0 : (R.reverse ++ y :: x :: B).getD R.length [] = y := by
      rw [List.getD_eq_getElem?_getD, List.getElem?_append_right (by simp)]; simp
    have h2 : swp (R.reverse ++ y :: x :: B) R.length = R.reverse ++ x :: y :: B := by
      unfold swp
      rw [h0, h1]
      simp [List.set_append]
    rw [List.length_cons, e, sink, h1, h0, h2, insZ]
    split
    · exact sink_ins R x (y :: B)
    · rw [e]
theorem insZ_app : ∀ (R : List Row) (x : Row) (B C : List Row), insZ R x (B ++ C) = insZ R x B ++ C
  | [], x, B, C => rfl
  | y :: R, x, B, C => by
    unfold insZ
    split
    · exact insZ_app R x (y :: B) C
    · simp
theorem insZ_perm : ∀ (R : List Row) (x : Row) (B : List Row), (insZ R x B).Perm (R.reverse ++ x :: B)
  | [], x, B => .refl _
  | y :: R, x, B => by
    unfold insZ
    split
    · refine (insZ_perm R x (y :: B)).trans ?_
      have e : (y :: R).reverse ++ x :: B = R.reverse ++ y :: x :: B := by simp
      rw [e]
      exact List.Perm.append_left _ (List.Perm.swap y x B)
    · exact .refl _
theorem insZ_sorted : ∀ (R : List Row) (x : Row) (B : List Row), (R.reverse ++ B).Pairwise rle → (∀ b ∈ B, rle x b) → (insZ R x B).Pairwise rle
  | [], x, B, h, hx => by
    rw [List.reverse_nil, List.nil_append] at h
    exact List.pairwise_cons.2 ⟨hx, h⟩
  | y :: R, x, B, h, hx => by
    unfold insZ
    have e : (y :: R).reverse ++ B = R.reverse ++ y :: B := by simp
    split
    · rename_i hlt
      refine insZ_sorted R x (y :: B) (by rw [← e]; exact h) (fun b hb => ?_)
      rcases List.mem_cons.1 hb with rfl | hb
      · exact rle_of hlt
      · exact hx b hb
    · rename_i hlt
      have hy : rle y x := hlt
      rw [List.pairwise_append] at h ⊢
      obtain ⟨h1, h2, h3⟩ := h
      refine ⟨h1, List.pairwise_cons.2 ⟨hx, h2⟩, fun a ha b hb => ?_⟩
      rcases List.mem_cons.1 hb with rfl | hb
      · have hay : rle a y := by
          rw [List.reverse_cons, List.mem_append, List.mem_singleton] at ha
          rcases ha with ha | rfl
          · rw [List.reverse_cons, List.pairwise_append] at h1
            exact h1.2.2 a ha y (List.mem_singleton.2 rfl)
          · rw [rle_iff]; omega
        exact rle_trans hay hy
      · exact h3 a ha b hb
theorem srtN_spec (L : List Row) : ∀ i, i < L.length → ∃ P : List Row, srtN L i = P ++ L.drop (i + 1) ∧ P.length = i + 1 ∧ P.Perm (L.take (i + 1)) ∧ P.Pairwise rle
  | 0, h => by
    cases L with
    | nil => simp at h
    | cons x L => exact ⟨[x], rfl, rfl, .refl _, List.pairwise_singleton _ _⟩
  | i + 1, h => by
    obtain ⟨P, h1, h2, h3, h4⟩ := srtN_spec L i (by omega)
    have hd : L.drop (i + 1) = L[i + 1] :: L.drop (i + 2) := List.drop_eq_getElem_cons h
    have hs : srtN L (i + 1) = insZ P.reverse L[i + 1] (L.drop (i + 2)) := by
      rw [srtN, h1, hd, ← sink_ins, List.length_reverse, List.reverse_reverse, h2]
    have ha := insZ_app P.reverse L[i + 1] [] (L.drop (i + 2))
    rw [List.nil_append] at ha
    have hp := insZ_perm P.reverse L[i + 1] []
    rw [List.reverse_reverse] at hp
    refine ⟨insZ P.reverse L[i + 1] [], by rw [hs, ha], ?_, ?_, insZ_sorted _ _ _ (by simpa using h4) (fun b hb => by cases hb)⟩
    · rw [hp.length_eq]; simp [h2]
    · refine hp.trans ?_
      rw [List.take_succ_eq_append_getElem h]
      exact h3.append_right _
theorem srt_perm (L : List Row) : (srt L).Perm L := by
  unfold srt
  by_cases h : L = []
  · subst h; exact .refl _
  · have hl := List.length_pos_iff.2 h
    obtain ⟨P, h1, h2, h3, h4⟩ := srtN_spec L (L.length - 1) (by omega)
    rw [h1, List.drop_eq_nil_of_le (by omega), List.append_nil]
    rwa [List.take_of_length_le (by omega)] at h3
theorem srt_sorted (L : List Row) : (srt L).Pairwise rle := by
  unfold srt
  by_cases h : L = []
  · subst h; exact List.Pairwise.nil
  · have hl := List.length_pos_iff.2 h
    obtain ⟨P, h1, h2, h3, h4⟩ := srtN_spec L (L.length - 1) (by omega)
    rw [h1, List.drop_eq_nil_of_le (by omega), List.append_nil]
    exact h4
theorem srt_len (L : List Row) : (srt L).length = L.length := (srt_perm L).length_eq
/-- The order told makes no difference. -/
theorem srt_turn {L L' : List Row} (hp : L.Perm L') (hd : ∀ a ∈ L, ∀ b ∈ L, rg a = rg b → a = b) : srt L = srt L' := by
  refine List.Perm.eq_of_pairwise (le := rle) (fun a b ha hb h1 h2 => ?_) (srt_sorted L) (srt_sorted L') ((srt_perm L).trans (hp.trans (srt_perm L').symm))
  rw [rle_iff] at h1 h2
  exact hd a ((srt_perm L).mem_iff.1 ha) b (hp.mem_iff.2 ((srt_perm L').mem_iff.1 hb)) (by omega)

/-! ### Spans that may be -/
def okS (r : Row) : Prop := (0 ≤ rg r ∧ rg r < 11) ∧ (0 ≤ fr r ∧ fr r ≤ tt r ∧ tt r < 64)
instance (r : Row) : Decidable (okS r) := inferInstanceAs (Decidable (_ ∧ _))
/-- The first n spans may be, of registers that are told apart. -/
def RightU (L : List Row) (n : Nat) : Prop := ∀ k, k < n → okS (L.getD k []) ∧ ∀ m, m < k → rg (L.getD m []) ≠ rg (L.getD k [])
instance (L : List Row) (n : Nat) : Decidable (RightU L n) := inferInstanceAs (Decidable (∀ k, k < n → _))
def aRight (L : List Row) : Bool := decide (RightU L L.length)
theorem RightU.zero (L : List Row) : RightU L 0 := fun k hk => absurd hk (Nat.not_lt_zero _)
theorem RightU.succ {L : List Row} {n : Nat} (h : RightU L n) (ho : okS (L.getD n [])) (hm : ∀ m, m < n → rg (L.getD m []) ≠ rg (L.getD n [])) : RightU L (n + 1) := fun k hk => by
  by_cases e : k = n
  · subst e; exact ⟨ho, hm⟩
  · exact h k (by omega)
theorem RightU.not {L : List Row} {n i : Nat} (hi : i < n) (h : ¬ (okS (L.getD i []) ∧ ∀ m, m < i → rg (L.getD m []) ≠ rg (L.getD i []))) : ¬ RightU L n := fun q => h (q i hi)
theorem getD_mem {L : List Row} {i : Nat} (h : i < L.length) : L.getD i [] ∈ L := by
  rw [List.getD_eq_getElem?_getD, List.getElem?_eq_getElem h]; exact List.getElem_mem h
theorem mem_getD {L : List Row} {r : Row} (h : r ∈ L) : ∃ i, i < L.length ∧ L.getD i [] = r := by
  obtain ⟨i, hi, e⟩ := List.getElem_of_mem h
  exact ⟨i, hi, by rw [List.getD_eq_getElem?_getD, List.getElem?_eq_getElem hi]; exact e⟩
theorem RightU.ok {L : List Row} (h : RightU L L.length) {r : Row} (hr : r ∈ L) : okS r := by
  obtain ⟨i, hi, rfl⟩ := mem_getD hr
  exact (h i hi).1
theorem RightU.inj {L : List Row} (h : RightU L L.length) {a b : Row} (ha : a ∈ L) (hb : b ∈ L) (e : rg a = rg b) : a = b := by
  obtain ⟨i, hi, rfl⟩ := mem_getD ha
  obtain ⟨k, hk, rfl⟩ := mem_getD hb
  rcases Nat.lt_trichotomy i k with h1 | h1 | h1
  · exact absurd e ((h k hk).2 i h1)
  · rw [h1]
  · exact absurd e.symm ((h i hi).2 k h1)
theorem RightU.nodup {L : List Row} (h : RightU L L.length) : (L.map rg).Nodup := by
  rw [List.Nodup, List.pairwise_map, List.pairwise_iff_getElem]
  intro i j hi hj hij
  have := (h j hj).2 i hij
  rwa [List.getD_eq_getElem?_getD, List.getElem?_eq_getElem hi, List.getD_eq_getElem?_getD, List.getElem?_eq_getElem hj] at this
theorem RightU.of {L : List Row} (h1 : ∀ r ∈ L, okS r) (h2 : (L.map rg).Nodup) : RightU L L.length := by
  intro k hk
  refine ⟨h1 _ (getD_mem hk), fun m hm => ?_⟩
  rw [List.Nodup, List.pairwise_map, List.pairwise_iff_getElem] at h2
  have := h2 m k (by omega) hk hm
  rwa [List.getD_eq_getElem?_getD, List.getElem?_eq_getElem (by omega), List.getD_eq_getElem?_getD, List.getElem?_eq_getElem hk]
theorem aRight_perm {L L' : List Row} (hp : L.Perm L') : aRight L = aRight L' := by
  unfold aRight
  refine decide_eq_decide.2 ⟨fun h => .of (fun r hr => h.ok (hp.mem_iff.2 hr)) ((hp.map rg).nodup_iff.1 h.nodup), fun h => .of (fun r hr => h.ok (hp.mem_iff.1 hr)) ((hp.map rg).nodup_iff.2 h.nodup)⟩
theorem nodup_bound : ∀ (n : Nat) (l : List Int), l.Nodup → (∀ x ∈ l, 0 ≤ x ∧ x < n) → l.length ≤ n
  | 0, l, _, h => by
    cases l with
    | nil => exact Nat.le_refl _
    | cons x l => have := h x List.mem_cons_self; omega
  | n + 1, l, hn, h => by
    have h1 := nodup_bound n (l.filter fun x => decide (x ≠ (n : Int))) (hn.filter _) (fun x hx => by
      rw [List.mem_filter, decide_eq_true_eq] at hx
      have := h x hx.1
      omega)
    have h2 : l.length ≤ (l.filter fun x => decide (x ≠ (n : Int))).length + 1 := by
      clear h1 h
      induction l with
      | nil => simp
      | cons y l ih =>
        rw [List.nodup_cons] at hn
        rw [List.filter_cons]
        split
        · have := ih hn.2
          simp only [List.length_cons]; omega
        · rename_i hy
          have hy' : y = (n : Int) := by simpa using hy
          have : (l.filter fun x => decide (x ≠ (n : Int))) = l := List.filter_eq_self.2 fun x hx => by
            rw [decide_eq_true_eq]; rintro rfl; exact hn.1 (hy' ▸ hx)
          rw [this]; simp
    omega
theorem RightU.len {L : List Row} (h : RightU L L.length) : L.length ≤ 11 := by
  have := nodup_bound 11 (L.map rg) h.nodup (fun x hx => by
    obtain ⟨r, hr, rfl⟩ := List.mem_map.1 hx
    exact (h.ok hr).1)
  simpa using this
end Go.Proofs.Ytoaffiooliclgaa
