/- Registers whose spans have a place: in the order of the spans, and in rising order. No walk is in here. -/
import Derived.Test.YtmkaphfdgdkaoaaSpE
set_option linter.unusedSimpArgs false
set_option linter.unusedVariables false
set_option linter.unusedVariables false
set_option linter.unusedSimpArgs false
namespace Go.Proofs.Ytmkaphfdgdkaoaa
open Go Go.RowKit

def onS (l : List (List Int)) (n : Nat) (i : Int) : Bool := decide (gt l (n : Int) 1 ≤ i) && decide (i ≤ gt l (n : Int) 2)
def atN (l : List (List Int)) (i : Int) : Nat → List Int
  | 0 => []
  | n + 1 => if onS l n i = true ∧ gt l (n : Int) 0 ∉ atN l i n then atN l i n ++ [gt l (n : Int) 0] else atN l i n
def srt (o : List Int) : List Int := o.mergeSort fun x y => decide (x ≤ y)
def rowsI (o : List Int) : List (List Int) := o.map fun x => [x]
/-- A set's entries. -/
def rows1 (o : List Int) : List (List Int) := o.map fun x => [x, 1]
def sAt (l : List (List Int)) (i : Int) : List (List Int) := rowsI (srt (atN l i l.length))
theorem rowsI_len (o : List Int) : (rowsI o).length = o.length := by simp [rowsI]
theorem rows1_len (o : List Int) : (rows1 o).length = o.length := by simp [rows1]
theorem rowsI_app (o : List Int) (x : Int) : rowsI o ++ [[x]] = rowsI (o ++ [x]) := by simp [rowsI]
theorem rows1_app (o : List Int) (x : Int) : rows1 o ++ [[x, 1]] = rows1 (o ++ [x]) := by simp [rows1]
theorem rowsI_in {o : List Int} (h : ∀ x ∈ o, inK .i64 x = true) (hl : o.length ≤ maxLen) : RowsIn [some .i64] (rowsI o) := by
  refine ⟨fun r hr => ?_, by rw [rowsI_len]; exact hl⟩
  obtain ⟨x, hx, rfl⟩ := List.mem_map.1 hr
  simp [rowIn, inCE, h x hx]
theorem rowsI_of {L : List (List Int)} (h : RowsIn [some .i64] L) : ∃ o, L = rowsI o ∧ ∀ x ∈ o, inK .i64 x = true := by
  refine ⟨L.map fun r => r.getD 0 0, ?_, fun x hx => ?_⟩
  · unfold rowsI
    rw [List.map_map]
    refine (List.map_id L).symm.trans (List.map_congr_left fun r hr => ?_)
    have h1 := rowIn_length (h.row r hr)
    match r, h1 with
    | [x], _ => rfl
  · obtain ⟨r, hr, rfl⟩ := List.mem_map.1 hx
    exact rowIn_get (h.row r hr) (c := 0) rfl
theorem gt_rowsI {o : List Int} {j : Nat} (h : j < o.length) : gt (rowsI o) (j : Int) 0 = o[j] := by
  simp [gt, rowsI, List.getElem?_eq_getElem h]
theorem atN_y {l : List (List Int)} {i : Int} {n : Nat} (h : onS l n i = true) (hn : gt l (n : Int) 0 ∉ atN l i n) : atN l i (n + 1) = atN l i n ++ [gt l (n : Int) 0] := if_pos ⟨h, hn⟩
theorem atN_n {l : List (List Int)} {i : Int} {n : Nat} (h : ¬ (onS l n i = true ∧ gt l (n : Int) 0 ∉ atN l i n)) : atN l i (n + 1) = atN l i n := if_neg h
theorem atN_len (l : List (List Int)) (i : Int) : ∀ n, (atN l i n).length ≤ n
  | 0 => Nat.le_refl _
  | n + 1 => by
    have := atN_len l i n
    unfold atN
    split
    · simp; omega
    · omega
theorem atN_mem (l : List (List Int)) (i : Int) : ∀ n x, x ∈ atN l i n ↔ ∃ k, k < n ∧ onS l k i = true ∧ gt l (k : Int) 0 = x
  | 0, x => by simp [atN]
  | n + 1, x => by
    have ih := atN_mem l i n x
    have step : (∃ k, k < n + 1 ∧ onS l k i = true ∧ gt l (k : Int) 0 = x) ↔ (∃ k, k < n ∧ onS l k i = true ∧ gt l (k : Int) 0 = x) ∨ (onS l n i = true ∧ gt l (n : Int) 0 = x) := by
      constructor
      · rintro ⟨k, h1, h2, h3⟩
        by_cases e : k = n
        · subst e; exact .inr ⟨h2, h3⟩
        · exact .inl ⟨k, by omega, h2, h3⟩
      · rintro (⟨k, h1, h2, h3⟩ | ⟨h2, h3⟩)
        · exact ⟨k, by omega, h2, h3⟩
        · exact ⟨n, by omega, h2, h3⟩
    rw [step, ← ih, show atN l i (n + 1) = if onS l n i = true ∧ gt l (n : Int) 0 ∉ atN l i n then atN l i n ++ [gt l (n : Int) 0] else atN l i n from rfl]
    split
    · rename_i h
      rw [List.mem_append, List.mem_singleton]
      constructor
      · rintro (h1 | rfl)
        · exact .inl h1
        · exact .inr ⟨h.1, rfl⟩
      · rintro (h1 | ⟨_, h1⟩)
        · exact .inl h1
        · exact .inr h1.symm
    · rename_i h
      constructor
      · exact .inl
      · rintro (h1 | ⟨h1, h2⟩)
        · exact h1
        · exact Classical.byContradiction fun hc => h ⟨h1, by rw [h2]; exact hc⟩
theorem atN_nodup (l : List (List Int)) (i : Int) : ∀ n, (atN l i n).Nodup
  | 0 => List.nodup_nil
  | n + 1 => by
    have := atN_nodup l i n
    unfold atN
    split
    · rename_i h
      rw [List.nodup_append]
      refine ⟨this, by simp, fun a ha b hb e => ?_⟩
      rw [List.mem_singleton] at hb
      exact h.2 (by rw [← hb, ← e]; exact ha)
    · exact this
theorem atN_in {l : List (List Int)} {ks : List CE} (hl : RowsIn (some .i64 :: ks) l) (i : Int) (n : Nat) (hn : n ≤ l.length) : ∀ x ∈ atN l i n, inK .i64 x = true := fun x hx => by
  obtain ⟨k, h1, h2, h3⟩ := (atN_mem l i n x).1 hx
  rw [← h3, gt_0 l k (by omega)]
  exact rowIn_get (hl.row _ (List.getElem_mem _)) (c := 0) rfl
theorem srt_mem {o : List Int} {x : Int} : x ∈ srt o ↔ x ∈ o := (List.mergeSort_perm o _).mem_iff
theorem srt_len (o : List Int) : (srt o).length = o.length := (List.mergeSort_perm o _).length_eq
theorem srt_up {o : List Int} (h : o.Nodup) : (srt o).Pairwise (· < ·) := by
  have h1 : (srt o).Pairwise fun a b => decide (a ≤ b) = true := List.pairwise_mergeSort (fun a b c h1 h2 => by simp at *; omega) (fun a b => by simp; omega) o
  have h2 : (srt o).Nodup := (List.mergeSort_perm o _).nodup_iff.2 h
  exact (h1.and h2).imp fun ⟨a, b⟩ => by simp at a; omega
theorem up_eq : ∀ {a b : List Int}, a.Pairwise (· < ·) → b.Pairwise (· < ·) → (∀ x, x ∈ a ↔ x ∈ b) → a = b
  | [], [], _, _, _ => rfl
  | [], y :: b, _, _, h => by have := (h y).2 List.mem_cons_self; cases this
  | x :: a, [], _, _, h => by have := (h x).1 List.mem_cons_self; cases this
  | x :: a, y :: b, ha, hb, h => by
    have ha' := List.pairwise_cons.1 ha
    have hb' := List.pairwise_cons.1 hb
    have hx : x = y := by
      rcases List.mem_cons.1 ((h x).1 List.mem_cons_self) with e | e
      · exact e
      · rcases List.mem_cons.1 ((h y).2 List.mem_cons_self) with e2 | e2
        · exact e2.symm
        · have := ha'.1 y e2
          have := hb'.1 x e
          omega
    subst hx
    congr 1
    refine up_eq ha'.2 hb'.2 fun z => ?_
    have hz := h z
    simp only [List.mem_cons] at hz
    constructor
    · intro hm
      rcases hz.1 (.inr hm) with e | e
      · have := ha'.1 z hm; omega
      · exact e
    · intro hm
      rcases hz.2 (.inr hm) with e | e
      · have := hb'.1 z hm; omega
      · exact e
/-! ### The set's entries -/
theorem mix_rows1 (o : List Int) (x : Int) : mixI (rows1 o) [x] = (o.findIdx (· == x) : Nat) := by
  unfold mixI rows1
  congr 1
  induction o with
  | nil => rfl
  | cons y o ih =>
    have ih' : List.findIdx (fun r => List.take 1 r == [x]) (List.map (fun x => [x, 1]) o) = List.findIdx (fun x_1 => x_1 == x) o := ih
    simp only [List.map_cons, List.findIdx_cons, List.length_singleton, List.take_succ_cons, List.take_zero]
    rw [ih']
    have : ([y] == [x]) = (y == x) := by simp
    rw [this]
theorem mix_in {o : List Int} {x : Int} : mixI (rows1 o) [x] < ((rows1 o).length : Int) ↔ x ∈ o := by
  rw [mix_rows1, rows1_len, Int.ofNat_lt, List.findIdx_lt_length]
  simp
theorem known_in (o : List Int) (x : Int) : (gt (rows1 o) (mixI (rows1 o) [x]) 1 == 1) = decide (x ∈ o) := by
  by_cases h : x ∈ o
  · rw [decide_eq_true h]
    have h1 := mix_in.2 h
    rw [mix_rows1, rows1_len] at h1
    rw [mix_rows1]
    have h2 : o.findIdx (· == x) < o.length := by omega
    simp [gt, rows1, List.getElem?_eq_getElem h2]
  · rw [decide_eq_false h]
    have h1 : ¬ mixI (rows1 o) [x] < ((rows1 o).length : Int) := fun e => h (mix_in.1 e)
    rw [mix_rows1, rows1_len] at h1
    rw [mix_rows1]
    have h2 : ¬ o.findIdx (· == x) < o.length := by omega
    simp only [gt, Int.toNat_natCast, List.getD_eq_getElem?_getD]
    rw [List.getElem?_eq_none (l := rows1 o) (by rw [rows1_len]; omega)]
    rfl
/-! ### The document's way: into a rising row -/
def kPos (o : List Int) (v : Int) : Nat := o.findIdx fun y => !decide (y < v)
def insJ (o : List Int) (v : Int) : List Int := if kPos o v < o.length ∧ o.getD (kPos o v) 0 = v then o else o.take (kPos o v) ++ v :: o.drop (kPos o v)
theorem kPos_le (o : List Int) (v : Int) : kPos o v ≤ o.length := List.findIdx_le_length
theorem kPos_lt {o : List Int} {v : Int} {j : Nat} (h : j < kPos o v) : o.getD j 0 < v := by
  have hj : j < o.length := Nat.lt_of_lt_of_le h (kPos_le o v)
  have := List.not_of_lt_findIdx (p := fun y => !decide (y < v)) h
  rw [List.getD_eq_getElem?_getD, List.getElem?_eq_getElem hj]
  simpa using this
theorem kPos_ge {o : List Int} {v : Int} (h : kPos o v < o.length) : ¬ o.getD (kPos o v) 0 < v := by
  have := List.findIdx_getElem (xs := o) (p := fun y => !decide (y < v)) (w := h)
  rw [List.getD_eq_getElem?_getD, List.getElem?_eq_getElem h]
  show ¬ o[o.findIdx fun y => !decide (y < v)] < v
  simpa using this
theorem kPos_is {o : List Int} {v : Int} {j : Nat} (h : ∀ i, i < j → o.getD i 0 < v) (hj : j ≤ o.length) (e : j = o.length ∨ ¬ o.getD j 0 < v) : kPos o v = j := by
  rcases Nat.lt_trichotomy (kPos o v) j with h1 | h1 | h1
  · exact absurd (h _ h1) (kPos_ge (by omega))
  · exact h1
  · have h2 := kPos_lt h1
    rcases e with e | e
    · have := kPos_le o v; omega
    · exact absurd h2 e
theorem insJ_mem {o : List Int} {v x : Int} : x ∈ insJ o v ↔ x = v ∨ x ∈ o := by
  unfold insJ
  split
  · rename_i h
    constructor
    · exact .inr
    · rintro (rfl | h1)
      · rw [← h.2, List.getD_eq_getElem?_getD, List.getElem?_eq_getElem h.1]; exact List.getElem_mem _
      · exact h1
  · have := List.take_append_drop (kPos o v) o
    rw [List.mem_append, List.mem_cons]
    constructor
    · rintro (h1 | h1 | h1)
      · exact .inr (List.mem_of_mem_take h1)
      · exact .inl h1
      · exact .inr (List.mem_of_mem_drop h1)
    · rintro (h1 | h1)
      · exact .inr (.inl h1)
      · rw [← this, List.mem_append] at h1
        rcases h1 with h1 | h1
        · exact .inl h1
        · exact .inr (.inr h1)
theorem insJ_up {o : List Int} {v : Int} (h : o.Pairwise (· < ·)) : (insJ o v).Pairwise (· < ·) := by
  unfold insJ
  split
  · exact h
  · rename_i hn
    have h2 := h
    rw [← List.take_append_drop (kPos o v) o, List.pairwise_append] at h2
    obtain ⟨p1, p2, p3⟩ := h2
    have lo : ∀ x ∈ o.take (kPos o v), x < v := fun x hx => by
      obtain ⟨j, hj, e⟩ := List.mem_iff_getElem.1 hx
      rw [List.length_take] at hj
      have := kPos_lt (o := o) (v := v) (j := j) (by omega)
      rw [List.getD_eq_getElem?_getD, List.getElem?_eq_getElem (by omega)] at this
      rw [← e, List.getElem_take]
      exact this
    have hi : ∀ x ∈ o.drop (kPos o v), v < x := fun x hx => by
      obtain ⟨j, hj, e⟩ := List.mem_iff_getElem.1 hx
      rw [List.length_drop] at hj
      have hk : kPos o v < o.length := by omega
      have h0 := kPos_ge hk
      have h1 : ¬ o.getD (kPos o v) 0 = v := fun e => hn ⟨hk, e⟩
      rw [List.getD_eq_getElem?_getD, List.getElem?_eq_getElem hk] at h0 h1
      simp only [Option.getD_some] at h0 h1
      rw [List.getElem_drop] at e
      rw [← e]
      rcases Nat.eq_zero_or_pos j with rfl | hp
      · simp only [Nat.add_zero]; omega
      · have := List.pairwise_iff_getElem.1 h (kPos o v) (kPos o v + j) hk (by omega) (by omega)
        omega
    rw [List.pairwise_append, List.pairwise_cons]
    refine ⟨p1, ⟨hi, p2⟩, fun a ha b hb => ?_⟩
    rcases List.mem_cons.1 hb with rfl | hb
    · exact lo a ha
    · exact p3 a ha b hb
theorem insJ_len (o : List Int) (v : Int) : (insJ o v).length ≤ o.length + 1 := by
  unfold insJ
  split
  · omega
  · have := kPos_le o v
    simp; omega
theorem insJ_y {o : List Int} {v : Int} (h : kPos o v < o.length) (e : o.getD (kPos o v) 0 = v) : insJ o v = o := if_pos ⟨h, e⟩
theorem insJ_n {o : List Int} {v : Int} (h : ¬ (kPos o v < o.length ∧ o.getD (kPos o v) 0 = v)) : insJ o v = o.take (kPos o v) ++ v :: o.drop (kPos o v) := if_neg h
/-- The document's, of the first n. -/
def jatN (l : List (List Int)) (i : Int) : Nat → List Int
  | 0 => []
  | n + 1 => if onS l n i = true then insJ (jatN l i n) (gt l (n : Int) 0) else jatN l i n
theorem jatN_y {l : List (List Int)} {i : Int} {n : Nat} (h : onS l n i = true) : jatN l i (n + 1) = insJ (jatN l i n) (gt l (n : Int) 0) := if_pos h
theorem jatN_n {l : List (List Int)} {i : Int} {n : Nat} (h : onS l n i = false) : jatN l i (n + 1) = jatN l i n := if_neg (by rw [h]; simp)
theorem jatN_up (l : List (List Int)) (i : Int) : ∀ n, (jatN l i n).Pairwise (· < ·)
  | 0 => List.Pairwise.nil
  | n + 1 => by
    unfold jatN
    split
    · exact insJ_up (jatN_up l i n)
    · exact jatN_up l i n
theorem jatN_len (l : List (List Int)) (i : Int) : ∀ n, (jatN l i n).length ≤ n
  | 0 => Nat.le_refl _
  | n + 1 => by
    have := jatN_len l i n
    unfold jatN
    split
    · have := insJ_len (jatN l i n) (gt l (n : Int) 0); omega
    · omega
theorem jatN_mem (l : List (List Int)) (i : Int) : ∀ n x, x ∈ jatN l i n ↔ ∃ k, k < n ∧ onS l k i = true ∧ gt l (k : Int) 0 = x
  | 0, x => by simp [jatN]
  | n + 1, x => by
    have ih := jatN_mem l i n x
    unfold jatN
    constructor
    · intro h
      split at h
      · rename_i ho
        rcases insJ_mem.1 h with rfl | h1
        · exact ⟨n, by omega, ho, rfl⟩
        · obtain ⟨k, h2, h3⟩ := ih.1 h1; exact ⟨k, by omega, h3⟩
      · obtain ⟨k, h2, h3⟩ := ih.1 h; exact ⟨k, by omega, h3⟩
    · rintro ⟨k, h1, h2, h3⟩
      by_cases e : k = n
      · subst e
        rw [if_pos h2]
        exact insJ_mem.2 (.inl h3.symm)
      · have := ih.2 ⟨k, by omega, h2, h3⟩
        split
        · exact insJ_mem.2 (.inr this)
        · exact this
theorem jat_eq (l : List (List Int)) (i : Int) (n : Nat) : jatN l i n = srt (atN l i n) :=
  up_eq (jatN_up l i n) (srt_up (atN_nodup l i n)) fun x => by rw [jatN_mem, srt_mem, atN_mem]
/-! ### The most at one place -/
def sMostN (l : List (List Int)) : Nat → Int
  | 0 => 0
  | n + 1 => max (sMostN l n) ((sAt l (n : Int)).length : Int)
def sMost (l : List (List Int)) : Int := sMostN l 64
theorem gt_rowsD (o : List Int) (j : Nat) : gt (rowsI o) (j : Int) 0 = o.getD j 0 := by
  by_cases h : j < o.length
  · rw [gt_rowsI h, List.getD_eq_getElem?_getD, List.getElem?_eq_getElem h]; rfl
  · simp only [gt, Int.toNat_natCast, List.getD_eq_getElem?_getD]
    rw [List.getElem?_eq_none (l := rowsI o) (by rw [rowsI_len]; omega), List.getElem?_eq_none (l := o) (by omega)]
    rfl
theorem rowsI_ins (o : List Int) (k : Nat) (v : Int) : ((rowsI o).take ((k : Int)).toNat ++ [[v]]) ++ (rowsI o).drop ((k : Int)).toNat = rowsI (o.take k ++ v :: o.drop k) := by
  simp [rowsI, List.map_take, List.map_drop]
theorem sAt_len (l : List (List Int)) (i : Int) : (sAt l i).length ≤ l.length := by
  unfold sAt
  rw [rowsI_len, srt_len]
  exact atN_len l i l.length
theorem onS_no1 {l : List (List Int)} {n : Nat} {i : Int} (h : decide (i < gt l (n : Int) 1) = true) : onS l n i = false := by
  have := of_decide_eq_true h
  unfold onS
  rw [decide_eq_false (by omega)]; rfl
theorem onS_no2 {l : List (List Int)} {n : Nat} {i : Int} (h : decide (gt l (n : Int) 2 < i) = true) : onS l n i = false := by
  have := of_decide_eq_true h
  unfold onS
  rw [decide_eq_false (p := i ≤ gt l (n : Int) 2) (by omega), Bool.and_false]
theorem onS_yes {l : List (List Int)} {n : Nat} {i : Int} (h1 : decide (i < gt l (n : Int) 1) = false) (h2 : decide (gt l (n : Int) 2 < i) = false) : onS l n i = true := by
  have := of_decide_eq_false h1
  have := of_decide_eq_false h2
  unfold onS
  rw [decide_eq_true (by omega), decide_eq_true (by omega)]; rfl
theorem onS_half {l : List (List Int)} {n : Nat} {i : Int} (h1 : decide (i < gt l (n : Int) 1) = false) : onS l n i = !decide (gt l (n : Int) 2 < i) := by
  cases h2 : decide (gt l (n : Int) 2 < i) with
  | true => rw [onS_no2 h2]; rfl
  | false => rw [onS_yes h1 h2]; rfl
def oAt (l : List (List Int)) (i : Int) : List Int := srt (atN l i l.length)
theorem oAt_len (l : List (List Int)) (i : Int) : (oAt l i).length ≤ l.length := by
  unfold oAt
  rw [srt_len]
  exact atN_len l i l.length
theorem oAt_up (l : List (List Int)) (i : Int) {j k : Nat} (h : j < k) (hk : k < (oAt l i).length) : (oAt l i).getD j 0 < (oAt l i).getD k 0 := by
  have := List.pairwise_iff_getElem.1 (srt_up (atN_nodup l i l.length)) j k (Nat.lt_trans h hk) hk h
  rw [List.getD_eq_getElem?_getD, List.getD_eq_getElem?_getD, List.getElem?_eq_getElem hk, List.getElem?_eq_getElem (Nat.lt_trans h hk)]
  exact this
theorem oAt_mem {l : List (List Int)} {i x : Int} : x ∈ oAt l i ↔ x ∈ atN l i l.length := srt_mem
theorem getD_in {o : List Int} {j : Nat} (h : j < o.length) : o.getD j 0 ∈ o := by
  rw [List.getD_eq_getElem?_getD, List.getElem?_eq_getElem h]; exact List.getElem_mem h
theorem take_mem_step {o : List Int} {j : Nat} (h : j < o.length) (v : Int) : decide (v ∈ o.take (j + 1)) = (decide (v ∈ o.take j) || (o.getD j 0 == v)) := by
  rw [List.take_add_one, List.getElem?_eq_getElem h, Option.toList_some, List.getD_eq_getElem?_getD, List.getElem?_eq_getElem h, Option.getD_some]
  rw [Bool.eq_iff_iff]
  simp only [decide_eq_true_eq, Bool.or_eq_true, List.mem_append, List.mem_singleton, beq_iff_eq]
  constructor
  · rintro (h | h)
    · exact .inl h
    · exact .inr h.symm
  · rintro (h | h)
    · exact .inl h
    · exact .inr h.symm
theorem at_mem_step (l : List (List Int)) (i : Int) (n : Nat) (v : Int) : decide (v ∈ atN l i (n + 1)) = (decide (v ∈ atN l i n) || (onS l n i && (gt l (n : Int) 0 == v))) := by
  rw [Bool.eq_iff_iff]
  simp only [decide_eq_true_eq, Bool.or_eq_true, Bool.and_eq_true, beq_iff_eq]
  rw [atN_mem, atN_mem]
  constructor
  · rintro ⟨k, h1, h2, h3⟩
    by_cases e : k = n
    · subst e; exact .inr ⟨h2, h3⟩
    · exact .inl ⟨k, by omega, h2, h3⟩
  · rintro (⟨k, h1, h2, h3⟩ | ⟨h2, h3⟩)
    · exact ⟨k, by omega, h2, h3⟩
    · exact ⟨n, by omega, h2, h3⟩
theorem sMeet_comm (a b : Span) : sMeet a b = sMeet b a := by
  unfold sMeet
  rw [Bool.eq_iff_iff, decide_eq_true_eq, decide_eq_true_eq]
  constructor <;> rintro ⟨h1, h2, h3⟩ <;> refine ⟨h2, h1, ?_⟩ <;> omega
end Go.Proofs.Ytmkaphfdgdkaoaa
