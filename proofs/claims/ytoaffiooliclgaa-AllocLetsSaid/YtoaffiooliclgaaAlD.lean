/- Giving spans homes, in plain words: as the program's steps reckon. No walk is in here. -/
import Derived.Test.YtoaffiooliclgaaAlC
import Derived.Test.YtoaffiooliclgaaSyR
set_option linter.unusedSimpArgs false
set_option linter.unusedVariables false
set_option linter.unusedVariables false
set_option linter.unusedSimpArgs false
namespace Go.Proofs.Ytoaffiooliclgaa
open Go Go.RowKit

theorem eqI {a b : Int} (h : (a == b) = true) : a = b := by simpa using h
theorem neI {a b : Int} (h : (a == b) = false) : a ≠ b := by simpa using h
theorem addN {n m : Nat} (h : n < m) (hm : m ≤ maxLen) : opI .add .i64 (n : Int) 1 = ((n + 1 : Nat) : Int) := by
  show IntKind.i64.wrap ((n : Int) + 1) = _
  rw [w_i64]; simp [maxLen] at hm; omega
theorem subN {n : Nat} (hm : n + 1 ≤ maxLen) : opI .sub .i64 ((n + 1 : Nat) : Int) 1 = (n : Int) := by
  show IntKind.i64.wrap (((n + 1 : Nat) : Int) - 1) = _
  simp only [maxLen] at hm
  rw [w_i64]; omega
theorem sub0 {n : Nat} (hm : n ≤ maxLen) : opI .sub .i64 (n : Int) 0 = (n : Int) := by
  show IntKind.i64.wrap ((n : Int) - 0) = _
  simp only [maxLen] at hm
  rw [w_i64]; omega
theorem add8 {n : Nat} (h : n < 100) : opI .add .i8 (n : Int) 1 = ((n + 1 : Nat) : Int) := by
  show IntKind.i8.wrap ((n : Int) + 1) = _
  refine wrap_in ?_
  rw [inK_iff]
  simp only [IntKind.min, IntKind.max, IntKind.signed, IntKind.bits]
  simp
  omega
theorem inK_u64 {x : Int} (h : inK .u64 x = true) : 0 ≤ x ∧ x ≤ 18446744073709551615 := by
  rw [inK_iff] at h; simpa [IntKind.min, IntKind.max, IntKind.signed, IntKind.bits] using h
theorem i64_inK {x : Int} (h : -9223372036854775808 ≤ x ∧ x ≤ 9223372036854775807) : inK .i64 x = true := by
  rw [inK_iff]; simpa [IntKind.min, IntKind.max, IntKind.signed, IntKind.bits] using h

/-! ### Comparisons -/
theorem aC1_eq {a b : Span} (h : cmpI a.fr b.fr = 0) : aC1 a b = cmpI a.reg b.reg := by unfold aC1 orI; rw [if_pos h]
theorem aC1_ne {a b : Span} (h : cmpI a.fr b.fr ≠ 0) : aC1 a b = cmpI a.fr b.fr := by unfold aC1 orI; rw [if_neg h]
theorem aC2_eq {a b : Span} (h : cmpI a.to b.to = 0) : aC2 a b = cmpI a.reg b.reg := by unfold aC2 orI; rw [if_pos h]
theorem aC2_ne {a b : Span} (h : cmpI a.to b.to ≠ 0) : aC2 a b = cmpI a.to b.to := by unfold aC2 orI; rw [if_neg h]

/-! ### Spans that may be -/
theorem mix1_cons (r : Row) (T : List Row) (x : Int) : mixI (r :: T) [x] = if r.take 1 == [x] then 0 else mixI T [x] + 1 := by
  unfold mixI
  rw [List.findIdx_cons]
  simp only [List.length_cons, List.length_nil, Nat.zero_add]
  cases hq : (r.take 1 == [x]) <;> simp
theorem seen_iff (x : Int) : ∀ M : List Int, (mixI (M.map fun a => [a, 1]) [x] < ((M.map fun a => [a, 1]).length : Int) ↔ x ∈ M) ∧ (gt (M.map fun a => [a, 1]) (mixI (M.map fun a => [a, 1]) [x]) 1 = if x ∈ M then 1 else 0)
  | [] => by simp [mixI, gt]
  | a :: M => by
    obtain ⟨h1, h2⟩ := seen_iff x M
    have hp := mix_pos (M.map fun a => [a, 1]) [x]
    rw [List.map_cons, mix1_cons]
    have ht : (([a, 1] : List Int).take 1 == [x]) = decide (a = x) := by
      rw [Bool.eq_iff_iff]; simp
    rw [ht]
    by_cases e : a = x
    · subst e
      simp [gt]
    · rw [decide_eq_false e]
      simp only [Bool.false_eq_true, if_false, List.length_cons, List.mem_cons, Ne.symm e, false_or]
      refine ⟨by rw [← h1]; omega, ?_⟩
      rw [← h2]
      unfold gt
      rw [show (mixI (M.map fun a => [a, 1]) [x] + 1).toNat = (mixI (M.map fun a => [a, 1]) [x]).toNat + 1 by omega, List.getD_cons_succ]
def seenR (l : List Row) (i : Nat) : List Row := ((l.take i).map rg).map fun a => [a, 1]
theorem seenR_len (l : List Row) (i : Nat) : (seenR l i).length ≤ i := by simp [seenR]; omega
theorem mem_seen {l : List Row} {i : Nat} (hi : i ≤ l.length) {x : Int} : x ∈ (l.take i).map rg ↔ ∃ m, m < i ∧ rg (l.getD m []) = x := by
  rw [List.mem_map]
  constructor
  · rintro ⟨r, hr, rfl⟩
    obtain ⟨m, hm, e⟩ := List.getElem_of_mem hr
    rw [List.length_take] at hm
    rw [List.getElem_take] at e
    refine ⟨m, by omega, ?_⟩
    rw [List.getD_eq_getElem?_getD, List.getElem?_eq_getElem (by omega), e]; rfl
  · rintro ⟨m, hm, rfl⟩
    refine ⟨_, ?_, rfl⟩
    rw [List.getD_eq_getElem?_getD, List.getElem?_eq_getElem (by omega)]
    exact List.mem_of_getElem? (i := m) (by rw [List.getElem?_take, if_pos hm, List.getElem?_eq_getElem (by omega)]; rfl)
theorem seen_get {l : List Row} {i : Nat} (hi : i ≤ l.length) {x : Int} : (gt (seenR l i) (mixI (seenR l i) [x]) 1 == 1) = true ↔ ∃ m, m < i ∧ rg (l.getD m []) = x := by
  rw [← mem_seen hi, show seenR l i = ((l.take i).map rg).map fun a => [a, 1] from rfl, (seen_iff x _).2]
  split
  · rename_i h; exact ⟨fun _ => h, fun _ => rfl⟩
  · rename_i h; exact ⟨fun q => absurd q (by decide), fun q => absurd q h⟩
theorem seen_lt {l : List Row} {i : Nat} (hi : i ≤ l.length) {x : Int} : mixI (seenR l i) [x] < ((seenR l i).length : Int) ↔ ∃ m, m < i ∧ rg (l.getD m []) = x := by
  rw [← mem_seen hi, show seenR l i = ((l.take i).map rg).map fun a => [a, 1] from rfl]
  exact (seen_iff x _).1
theorem seen_step {l : List Row} {i : Nat} (hi : i < l.length) : seenR l i ++ [[gt l (i : Int) 0, b2i true]] = seenR l (i + 1) := by
  unfold seenR
  rw [List.take_succ_eq_append_getElem hi, List.map_append, List.map_append]
  simp only [List.map_cons, List.map_nil]
  rw [show gt l (i : Int) 0 = rg l[i] by
    show rg (l.getD i []) = _
    rw [List.getD_eq_getElem?_getD, List.getElem?_eq_getElem hi]; rfl]
  rfl
theorem aR_bad {l : List Row} {i : Nat} (hi : i < l.length) (h : ¬ (okS (l.getD i []) ∧ ∀ m, m < i → rg (l.getD m []) ≠ rg (l.getD i []))) : aRight l = false := decide_eq_false (RightU.not hi h)
theorem aR_bad1 {l : List Row} {i : Nat} (hi : i < l.length) (h : ¬ okS (l.getD i [])) : aRight l = false := aR_bad hi fun q => h q.1
theorem aR_bad2 {l : List Row} {i : Nat} (hi : i < l.length) (h : ∃ m, m < i ∧ rg (l.getD m []) = gt l (i : Int) 0) : aRight l = false := aR_bad hi fun q => by
  obtain ⟨m, h1, h2⟩ := h
  exact q.2 m h1 h2
theorem aR_ok {l : List Row} {i : Nat} (hi : i ≤ l.length) (he : ¬ i < l.length) (h : RightU l i) : aRight l = true := by
  have : i = l.length := by omega
  subst this
  exact decide_eq_true h
theorem aR_u {l : List Row} (h : aRight l = true) : RightU l l.length := of_decide_eq_true h
theorem okS_of {l : List Row} {i : Nat} (h1 : decide (gt l (i : Int) 0 < 0) = false) (h2 : decide (gt l (i : Int) 0 < 11) = true) (h3 : decide (gt l (i : Int) 1 < 0) = false) (h4 : decide (gt l (i : Int) 2 < gt l (i : Int) 1) = false) (h5 : decide (gt l (i : Int) 2 < 64) = true) : okS (l.getD i []) := by
  have h1 := of_decide_eq_false h1
  have h2 := of_decide_eq_true h2
  have h3 := of_decide_eq_false h3
  have h4 := of_decide_eq_false h4
  have h5 := of_decide_eq_true h5
  exact ⟨⟨Int.not_lt.1 h1, h2⟩, Int.not_lt.1 h3, Int.not_lt.1 h4, h5⟩

/-! ### Rows -/
abbrev kS : List CE := [some .i64, some .i64, some .i64, none]
abbrev kT : List CE := [some .i8, some .i8, some .i64, some .i64, some .i64, none]
theorem in4 {r : Row} (h : rowIn kS r = true) : ∃ a b c d, r = [a, b, c, b2i d] := by
  obtain ⟨a, q, rfl, _, h⟩ := rowIn_cons h
  obtain ⟨b, q, rfl, _, h⟩ := rowIn_cons h
  obtain ⟨c, q, rfl, _, h⟩ := rowIn_cons h
  obtain ⟨d, q, rfl, hd, h⟩ := rowIn_cons h
  obtain rfl := rowIn_nil h
  obtain ⟨e, rfl⟩ := ce_bool hd
  exact ⟨a, b, c, e, rfl⟩
theorem row4 {r : Row} (h : rowIn kS r = true) : [rg r, fr r, tt r, b2i (ov r)] = r := by
  obtain ⟨a, b, c, d, rfl⟩ := in4 h
  show [a, b, c, b2i (b2i d == 1)] = _
  rw [b2i_eq]
theorem in6 {r : Row} (h : rowIn kT r = true) : ∃ a b s, r = a :: b :: s ∧ rowIn kS s = true := by
  obtain ⟨a, q, rfl, _, h⟩ := rowIn_cons h
  obtain ⟨b, q, rfl, _, h⟩ := rowIn_cons h
  exact ⟨a, b, q, rfl, h⟩
theorem rowAt4 {L : List Row} {n : Nat} (h : RowsIn kS L) (hn : n < L.length) : rowIn kS (L.getD n []) = true := h.row _ (getD_mem hn)
theorem span_at {L : List Row} {n : Nat} (h : RowsIn kS L) (hn : n < L.length) : [gt L (n : Int) 0, gt L (n : Int) 1, gt L (n : Int) 2, b2i (gt L (n : Int) 3 == 1)] = L.getD n [] := row4 (rowAt4 h hn)
theorem st4 {L : List Row} {n : Nat} (h : RowsIn kS L) (hn : n < L.length) (a b c : Int) (d : Bool) : st (st (st (st L (n : Int) 0 a) (n : Int) 1 b) (n : Int) 2 c) (n : Int) 3 (b2i d) = L.set n [a, b, c, b2i d] := by
  obtain ⟨x, y, z, u, hr⟩ := in4 (rowAt4 h hn)
  unfold st
  simp only [Int.toNat_natCast, List.set_set]
  have e : ∀ (M : List Row) (q : Row), n < M.length → (M.set n q).getD n [] = q := fun M q hM => by
    rw [List.getD_eq_getElem?_getD, List.getElem?_set]; simp [hM]
  rw [hr]
  rw [e L _ hn]
  rw [e L _ hn]
  rw [e L _ hn]
  rfl
theorem getD_setR {L : List Row} {n m : Nat} {q : Row} (h : n ≠ m) : (L.set n q).getD m [] = L.getD m [] := by
  rw [List.getD_eq_getElem?_getD, List.getElem?_set_ne h, List.getD_eq_getElem?_getD]
theorem gt_setR {L : List Row} {n m : Nat} {q : Row} (h : n ≠ m) (c : Nat) : gt (L.set n q) (m : Int) c = gt L (m : Int) c := by
  show ((L.set n q).getD m []).getD c 0 = _
  rw [getD_setR h]; rfl
theorem set_rows {L : List Row} {n : Nat} (h : RowsIn kS L) {q : Row} (hq : rowIn kS q = true) : RowsIn kS (L.set n q) :=
  ⟨fun r hr => by
    rcases List.mem_or_eq_of_mem_set hr with h1 | rfl
    · exact h.row r h1
    · exact hq, by rw [List.length_set]; exact h.len⟩
/-- One exchange, as the program does it. -/
theorem swp_st {M : List Row} {j : Nat} (h : RowsIn kS M) (hj : j + 1 < M.length) : st (st (st (st (st (st (st (st M ((j + 1 : Nat) : Int) 0 (gt M (j : Int) 0)) ((j + 1 : Nat) : Int) 1 (gt M (j : Int) 1)) ((j + 1 : Nat) : Int) 2 (gt M (j : Int) 2)) ((j + 1 : Nat) : Int) 3 (b2i (gt M (j : Int) 3 == 1))) (j : Int) 0 (gt M ((j + 1 : Nat) : Int) 0)) (j : Int) 1 (gt M ((j + 1 : Nat) : Int) 1)) (j : Int) 2 (gt M ((j + 1 : Nat) : Int) 2)) (j : Int) 3 (b2i (gt M ((j + 1 : Nat) : Int) 3 == 1)) = swp M j := by
  rw [st4 h hj, span_at h (by omega : j < M.length), st4 (set_rows h (rowAt4 h (by omega))) (by simp; omega), span_at h hj]
  rfl
theorem swp_rows {M : List Row} {j : Nat} (h : RowsIn kS M) (hj : j + 1 < M.length) : RowsIn kS (swp M j) := set_rows (set_rows h (rowAt4 h (by omega))) (rowAt4 h hj)
theorem sink_y {M : List Row} {j : Nat} (h : decide (aC1 (spanAt M ((j + 1 : Nat) : Int)) (spanAt M (j : Int)) < 0) = true) : sink (j + 1) M = sink j (swp M j) := by
  have h := of_decide_eq_true h
  rw [spanAt_row, spanAt_row] at h
  exact if_pos h
theorem sink_n {M : List Row} {j : Nat} (h : decide (aC1 (spanAt M ((j + 1 : Nat) : Int)) (spanAt M (j : Int)) < 0) = false) : sink (j + 1) M = M := by
  have h := of_decide_eq_false h
  rw [spanAt_row, spanAt_row] at h
  exact if_neg h
theorem rows_perm {L M : List Row} (hp : L.Perm M) (h : RowsIn kS M) : RowsIn kS L := ⟨fun r hr => h.row r (hp.mem_iff.1 hr), by rw [hp.length_eq]; exact h.len⟩
theorem srtN_end {l : List Row} {i : Nat} (hi : i ≤ l.length - 1) (h : ¬ i + 1 < l.length) : srtN l i = srt l := by
  unfold srt
  rw [show l.length - 1 = i by omega]

/-! ### Places -/
structure P11 where
  k0 : Int
  n0 : Int
  k1 : Int
  n1 : Int
  k2 : Int
  n2 : Int
  k3 : Int
  n3 : Int
  k4 : Int
  n4 : Int
  k5 : Int
  n5 : Int
  k6 : Int
  n6 : Int
  k7 : Int
  n7 : Int
  k8 : Int
  n8 : Int
  k9 : Int
  n9 : Int
  k10 : Int
  n10 : Int
def g0 (K : List Int) (i : Nat) : Int := K.getD i 0
def p11 (K N : List Int) : P11 := ⟨g0 K 0, g0 N 0, g0 K 1, g0 N 1, g0 K 2, g0 N 2, g0 K 3, g0 N 3, g0 K 4, g0 N 4, g0 K 5, g0 N 5, g0 K 6, g0 N 6, g0 K 7, g0 N 7, g0 K 8, g0 N 8, g0 K 9, g0 N 9, g0 K 10, g0 N 10⟩
def dP (K N : List Int) : List Dt := [.z (g0 K 0), .z (g0 N 0), .z (g0 K 1), .z (g0 N 1), .z (g0 K 2), .z (g0 N 2), .z (g0 K 3), .z (g0 N 3), .z (g0 K 4), .z (g0 N 4), .z (g0 K 5), .z (g0 N 5), .z (g0 K 6), .z (g0 N 6), .z (g0 K 7), .z (g0 N 7), .z (g0 K 8), .z (g0 N 8), .z (g0 K 9), .z (g0 N 9), .z (g0 K 10), .z (g0 N 10)]
def kl (K : List Int) : List Int := [g0 K 0, g0 K 1, g0 K 2, g0 K 3, g0 K 4, g0 K 5, g0 K 6, g0 K 7, g0 K 8, g0 K 9, g0 K 10]
theorem kl_eq {K : List Int} (h : K.length = 11) : kl K = K := by
  match K, h with
  | [_, _, _, _, _, _, _, _, _, _, _], _ => rfl
theorem kl_get {K : List Int} (h : K.length = 11) (x : Int) : ([g0 K 0, g0 K 1, g0 K 2, g0 K 3, g0 K 4, g0 K 5, g0 K 6, g0 K 7, g0 K 8, g0 K 9, g0 K 10] : List Int).getD x.toNat 0 = g0 K x.toNat := by
  rw [show ([g0 K 0, g0 K 1, g0 K 2, g0 K 3, g0 K 4, g0 K 5, g0 K 6, g0 K 7, g0 K 8, g0 K 9, g0 K 10] : List Int) = K from kl_eq h]; rfl
theorem g0_set {K : List Int} (h : K.length = 11) {x : Int} (h0 : 0 ≤ x) (h1 : x < 11) (a : Int) (m : Nat) : g0 (K.set x.toNat a) m = if (x == (m : Int)) = true then a else g0 K m := by
  unfold g0
  rw [getD_set (by omega)]
  by_cases e : x = (m : Int)
  · rw [if_pos (by omega), if_pos (by simpa using e)]
  · rw [if_neg (by omega), if_neg (by simpa using e)]
theorem dP_set {K N : List Int} (hK : K.length = 11) (hN : N.length = 11) {x : Int} (h0 : 0 ≤ x) (h1 : x < 11) (a b : Int) : dP (K.set x.toNat a) (N.set x.toNat b) =
    [.z (if (x == 0) = true then a else g0 K 0), .z (if (x == 0) = true then b else g0 N 0), .z (if (x == 1) = true then a else g0 K 1), .z (if (x == 1) = true then b else g0 N 1), .z (if (x == 2) = true then a else g0 K 2), .z (if (x == 2) = true then b else g0 N 2), .z (if (x == 3) = true then a else g0 K 3), .z (if (x == 3) = true then b else g0 N 3), .z (if (x == 4) = true then a else g0 K 4), .z (if (x == 4) = true then b else g0 N 4), .z (if (x == 5) = true then a else g0 K 5), .z (if (x == 5) = true then b else g0 N 5), .z (if (x == 6) = true then a else g0 K 6), .z (if (x == 6) = true then b else g0 N 6), .z (if (x == 7) = true then a else g0 K 7), .z (if (x == 7) = true then b else g0 N 7), .z (if (x == 8) = true then a else g0 K 8), .z (if (x == 8) = true then b else g0 N 8), .z (if (x == 9) = true then a else g0 K 9), .z (if (x == 9) = true then b else g0 N 9), .z (if (x == 10) = true then a else g0 K 10), .z (if (x == 10) = true then b else g0 N 10)] := by
  unfold dP
  simp only [g0_set hK h0 h1, g0_set hN h0 h1]
  rfl
theorem dP_setN {K N : List Int} (hN : N.length = 11) {x : Int} (h0 : 0 ≤ x) (h1 : x < 11) (b : Int) : dP K (N.set x.toNat b) =
    [.z (g0 K 0), .z (if (x == 0) = true then b else g0 N 0), .z (g0 K 1), .z (if (x == 1) = true then b else g0 N 1), .z (g0 K 2), .z (if (x == 2) = true then b else g0 N 2), .z (g0 K 3), .z (if (x == 3) = true then b else g0 N 3), .z (g0 K 4), .z (if (x == 4) = true then b else g0 N 4), .z (g0 K 5), .z (if (x == 5) = true then b else g0 N 5), .z (g0 K 6), .z (if (x == 6) = true then b else g0 N 6), .z (g0 K 7), .z (if (x == 7) = true then b else g0 N 7), .z (g0 K 8), .z (if (x == 8) = true then b else g0 N 8), .z (g0 K 9), .z (if (x == 9) = true then b else g0 N 9), .z (g0 K 10), .z (if (x == 10) = true then b else g0 N 10)] := by
  unfold dP
  simp only [g0_set hN h0 h1]
  rfl
def aRun (l : List Row) : P11 × Int := if aRight l = true then (p11 (runA l).K (numb (runA l).K (runA l).N 11), 0) else (p11 [] [], 2)
theorem aRun_y {l : List Row} (h : aRight l = true) : aRun l = (p11 (runA l).K (numb (runA l).K (runA l).N 11), 0) := if_pos h
theorem aRun_n {l : List Row} (h : aRight l = false) : aRun l = (p11 [] [], 2) := if_neg (by rw [h]; simp)

/-! ### Homes -/
theorem busy_f1 {T : List Row} {h f : Int} (c : decide (mixI T [1, h] < (T.length : Int)) = false) : busyL T f h = false := by
  rw [look_some] at c
  unfold busyL
  cases hl : look T 1 h with
  | none => rfl
  | some o => rw [hl] at c; cases c
theorem busy_f2 {T : List Row} {h f : Int} (c : decide (mixI T [1, h] < (T.length : Int)) = true) (d : decide (gt T (mixI T [1, h]) 4 < f) = true) : busyL T f h = false := by
  rw [look_some] at c
  have h4 := (look_mix 1 h T).2 2
  unfold busyL
  cases hl : look T 1 h with
  | none => rfl
  | some o =>
    rw [hl] at h4
    have := of_decide_eq_true d
    rw [show gt T (mixI T [1, h]) 4 = tt o from h4] at this
    exact decide_eq_false (by omega)
theorem busy_t {T : List Row} {h f : Int} (c : decide (mixI T [1, h] < (T.length : Int)) = true) (d : decide (gt T (mixI T [1, h]) 4 < f) = false) : busyL T f h = true := by
  rw [look_some] at c
  have h4 := (look_mix 1 h T).2 2
  unfold busyL
  cases hl : look T 1 h with
  | none => rw [hl] at c; cases c
  | some o =>
    rw [hl] at h4
    have := of_decide_eq_false d
    rw [show gt T (mixI T [1, h]) 4 = tt o from h4] at this
    exact decide_eq_true (by omega)
/-- The span at a home, as the program reads it. -/
theorem here_at {T : List Row} (hT : RowsIn kT T) {h : Int} (c : decide (mixI T [1, h] < (T.length : Int)) = true) : [gt T (mixI T [1, h]) 2, gt T (mixI T [1, h]) 3, gt T (mixI T [1, h]) 4, b2i (gt T (mixI T [1, h]) 5 == 1)] = (look T 1 h).getD [] ∧ rowIn kS ((look T 1 h).getD []) = true := by
  have hc := of_decide_eq_true c
  have hp := mix_pos T [1, h]
  have hm := look_mix 1 h T
  have hr : rowIn kS ((look T 1 h).getD []) = true := by
    rw [look_some] at c
    cases hl : look T 1 h with
    | none => rw [hl] at c; cases c
    | some o =>
      unfold look at hl
      rw [Option.map_eq_some_iff] at hl
      obtain ⟨r, h1, rfl⟩ := hl
      obtain ⟨a, b, s, rfl, h2⟩ := in6 (hT.row r (List.mem_of_find?_eq_some h1))
      exact h2
  refine ⟨?_, hr⟩
  rw [hm.2 0, hm.2 1, hm.2 2, hm.2 3]
  exact row4 hr
theorem putR_set {T : List Row} {k n : Int} (c : decide (mixI T [k, n] < (T.length : Int)) = true) (s : Row) : T.set (mixI T [k, n]).toNat (k :: n :: s) = putR k n s T := (putR_mix k n s T).1 (of_decide_eq_true c)
theorem putR_app {T : List Row} {k n : Int} (c : decide (mixI T [k, n] < (T.length : Int)) = false) (s : Row) : T ++ [k :: n :: s] = putR k n s T := (putR_mix k n s T).2 (of_decide_eq_false c)
theorem stepA_some {st : Ast} {s : Row} {h : Int} (hp : pick st.T (fr s) (homesL (ov s)) = some h) : stepA st s = ⟨putR 1 h s st.T, st.K.set (rg s).toNat 1, st.N.set (rg s).toNat h⟩ := stepA_free hp
theorem stepA_self {st : Ast} {s : Row} (hp : pick st.T (fr s) (homesL (ov s)) = none) (hw : wst st.T s = s) : stepA st s = ⟨st.T, st.K.set (rg s).toNat 2, st.N.set (rg s).toNat 0⟩ := by
  unfold stepA; rw [hp]; exact if_pos hw
theorem stepA_other {st : Ast} {s : Row} (hp : pick st.T (fr s) (homesL (ov s)) = none) {o : Row} (ho : o = wst st.T s) (hw : o ≠ s) : stepA st s = ⟨putR (st.kd o) (st.hn o) s st.T, (st.K.set (rg s).toNat (st.kd o)).set (rg o).toNat 2, (st.N.set (rg s).toNat (st.hn o)).set (rg o).toNat 0⟩ := by
  subst ho
  unfold stepA; rw [hp]; exact if_neg hw
def stN (l : List Row) (k : Nat) : Ast := ((srt l).take k).foldl stepA a0
theorem stN_succ {l : List Row} {k : Nat} (h : k < (srt l).length) : stN l (k + 1) = stepA (stN l k) ((srt l).getD k []) := by
  unfold stN
  rw [List.take_succ_eq_append_getElem h, List.foldl_append, List.getD_eq_getElem?_getD, List.getElem?_eq_getElem h]
  rfl
theorem stN_end {l : List Row} {k : Nat} (h1 : k ≤ (srt l).length) (h : ¬ k < (srt l).length) : stN l k = runA l := by
  unfold stN runA
  rw [List.take_of_length_le (by omega)]
theorem stN_kn (l : List Row) : ∀ k, (stN l k).K.length = 11 ∧ (stN l k).N.length = 11 ∧ (stN l k).T.length ≤ k := by
  have key : ∀ (st : Ast) (s : Row), (stepA st s).K.length = st.K.length ∧ (stepA st s).N.length = st.N.length ∧ (stepA st s).T.length ≤ st.T.length + 1 := fun st s => by
    unfold stepA
    split
    · exact ⟨List.length_set, List.length_set, putR_len _ _ _ _⟩
    · split
      · exact ⟨List.length_set, List.length_set, Nat.le_succ _⟩
      · exact ⟨by simp, by simp, putR_len _ _ _ _⟩
  intro k
  induction k with
  | zero => exact ⟨rfl, rfl, Nat.le_refl _⟩
  | succ k ih =>
    by_cases h : k < (srt l).length
    · rw [stN_succ h]
      obtain ⟨h1, h2, h3⟩ := key (stN l k) ((srt l).getD k [])
      omega
    · have e : stN l (k + 1) = stN l k := by unfold stN; rw [List.take_of_length_le (by omega), List.take_of_length_le (by omega)]
      rw [e]; omega
/-- The worst, as the program seeks it. -/
theorem worst_y {H : List Row} {x : Row} {m : Nat} (hm : m < H.length) (h : decide (0 < aC2 (spanAt H (m : Int)) (spR x)) = true) : worstR x (H.drop m) = worstR (H.getD m []) (H.drop (m + 1)) := by
  rw [List.drop_eq_getElem_cons hm, worstR, List.getD_eq_getElem?_getD, List.getElem?_eq_getElem hm, if_pos]
  · rfl
  · have := of_decide_eq_true h
    rw [spanAt_row, List.getD_eq_getElem?_getD, List.getElem?_eq_getElem hm] at this
    exact this
theorem worst_n {H : List Row} {x : Row} {m : Nat} (hm : m < H.length) (h : decide (0 < aC2 (spanAt H (m : Int)) (spR x)) = false) : worstR x (H.drop m) = worstR x (H.drop (m + 1)) := by
  rw [List.drop_eq_getElem_cons hm, worstR, if_neg]
  have := of_decide_eq_false h
  rw [spanAt_row, List.getD_eq_getElem?_getD, List.getElem?_eq_getElem hm] at this
  exact this
theorem worst_end {H : List Row} {x : Row} {m : Nat} (hm : ¬ m < H.length) : worstR x (H.drop m) = x := by
  rw [List.drop_eq_nil_of_le (by omega)]; rfl
theorem spR_mk (x : Row) : (⟨rg x, fr x, tt x, ov x⟩ : Span) = spR x := rfl
theorem RightU.bd {l : List Row} {i : Nat} (hi : i ≤ l.length) (h : RightU l i) : i ≤ 11 := by
  have hl : (l.take i).length = i := by simp; omega
  have e : ∀ k, k < i → (l.take i).getD k [] = l.getD k [] := fun k hk => by
    rw [List.getD_eq_getElem?_getD, List.getElem?_take, if_pos hk, List.getD_eq_getElem?_getD]
  have : RightU (l.take i) (l.take i).length := fun k hk => by
    rw [hl] at hk
    obtain ⟨h1, h2⟩ := h k hk
    rw [e k hk]
    exact ⟨h1, fun m hm => by rw [e m (by omega)]; exact h2 m hm⟩
  have := this.len
  omega
/-- What holds where a home was sought: found, or all are busy. -/
def CutA (st : Ast) (s : Row) (ds : List Dt) : Prop := ∃ (f : Bool) (H T : List Row) (K N : List Int), ds = .z (b2i f) :: .l H :: .l T :: dP K N ∧
  ((f = true ∧ ∃ h, pick st.T (fr s) (homesL (ov s)) = some h ∧ T = putR 1 h s st.T ∧ K = st.K.set (rg s).toNat 1 ∧ N = st.N.set (rg s).toNat h) ∨
   (f = false ∧ pick st.T (fr s) (homesL (ov s)) = none ∧ (∃ H', H = s :: H' ∧ worstR s H' = wst st.T s) ∧ T = st.T ∧ K = st.K ∧ N = st.N))
theorem cutA_y {st : Ast} {s : Row} {h : Int} {H : List Row} (hp : pick st.T (fr s) (homesL (ov s)) = some h) (hK : st.K.length = 11) (hN : st.N.length = 11) (ho : okS s) :
    CutA st s (.z (b2i true) :: .l H :: .l (putR 1 h s st.T) :: [.z (if (rg s == 0) = true then 1 else g0 st.K 0), .z (if (rg s == 0) = true then h else g0 st.N 0), .z (if (rg s == 1) = true then 1 else g0 st.K 1), .z (if (rg s == 1) = true then h else g0 st.N 1), .z (if (rg s == 2) = true then 1 else g0 st.K 2), .z (if (rg s == 2) = true then h else g0 st.N 2), .z (if (rg s == 3) = true then 1 else g0 st.K 3), .z (if (rg s == 3) = true then h else g0 st.N 3), .z (if (rg s == 4) = true then 1 else g0 st.K 4), .z (if (rg s == 4) = true then h else g0 st.N 4), .z (if (rg s == 5) = true then 1 else g0 st.K 5), .z (if (rg s == 5) = true then h else g0 st.N 5), .z (if (rg s == 6) = true then 1 else g0 st.K 6), .z (if (rg s == 6) = true then h else g0 st.N 6), .z (if (rg s == 7) = true then 1 else g0 st.K 7), .z (if (rg s == 7) = true then h else g0 st.N 7), .z (if (rg s == 8) = true then 1 else g0 st.K 8), .z (if (rg s == 8) = true then h else g0 st.N 8), .z (if (rg s == 9) = true then 1 else g0 st.K 9), .z (if (rg s == 9) = true then h else g0 st.N 9), .z (if (rg s == 10) = true then 1 else g0 st.K 10), .z (if (rg s == 10) = true then h else g0 st.N 10)]) :=
  ⟨true, H, _, _, _, by rw [dP_set hK hN ho.1.1 ho.1.2], .inl ⟨rfl, h, hp, rfl, rfl, rfl⟩⟩
theorem cutA_n {st : Ast} {s : Row} (hp : pick st.T (fr s) (homesL (ov s)) = none) :
    CutA st s (.z (b2i false) :: .l (s :: (homesL (ov s)).map fun h => (look st.T 1 h).getD []) :: .l st.T :: dP st.K st.N) :=
  ⟨false, _, _, _, _, rfl, .inr ⟨rfl, hp, ⟨_, rfl, rfl⟩, rfl, rfl, rfl⟩⟩
theorem kl_setK {K : List Int} (h : K.length = 11) {x : Int} (h0 : 0 ≤ x) (h1 : x < 11) (a : Int) : ([g0 (K.set x.toNat a) 0, g0 (K.set x.toNat a) 1, g0 (K.set x.toNat a) 2, g0 (K.set x.toNat a) 3, g0 (K.set x.toNat a) 4, g0 (K.set x.toNat a) 5, g0 (K.set x.toNat a) 6, g0 (K.set x.toNat a) 7, g0 (K.set x.toNat a) 8, g0 (K.set x.toNat a) 9, g0 (K.set x.toNat a) 10] : List Int).getD x.toNat 0 = a := by
  rw [kl_get (by rw [List.length_set]; exact h)]
  unfold g0
  rw [getD_set (by omega), if_pos rfl]
theorem wst_ok {l : List Row} (hR : RightU l l.length) {k : Nat} (hk : k < (srt l).length) {s : Row} (hs : s = (srt l).getD k []) (hp : pick (stN l k).T (fr s) (homesL (ov s)) = none) {x : Row} (hx : x = wst (stN l k).T s) (hne : x ≠ s) : okS x := by
  have h' := hR.srt
  have hi := AInv.run (fun s hs => h'.ok hs) (fun a ha b hb => h'.inj ha hb) (srt_sorted l) h'.nodup k (by omega)
  have hb := pick_none hp
  have hm := worstR_mem ((homesL (ov s)).map fun h => (look (stN l k).T 1 h).getD []) s
  rw [show worstR s ((homesL (ov s)).map fun h => (look (stN l k).T 1 h).getD []) = x from hx.symm] at hm
  rcases List.mem_cons.1 hm with hm | hm
  · exact absurd hm hne
  · obtain ⟨h, h1, h2⟩ := List.mem_map.1 hm
    obtain ⟨o, h3, h4⟩ := busy_some (hb h h1)
    rw [h3] at h2
    obtain rfl : o = x := h2
    exact h'.ok (List.mem_of_mem_take (hi.look h o h3).1)
theorem same4 {a b : Row} (ha : rowIn kS a = true) (hb : rowIn kS b = true) : (((rg a == rg b) && ((fr a == fr b) && ((tt a == tt b) && ((ov a == ov b) && true)))) == true) = decide (a = b) := by
  obtain ⟨x, y, z, u, rfl⟩ := in4 ha
  obtain ⟨x', y', z', u', rfl⟩ := in4 hb
  show (((x == x') && ((y == y') && ((z == z') && (((b2i u == 1) == (b2i u' == 1)) && true)))) == true) = _
  rw [b2i_eq, b2i_eq, Bool.eq_iff_iff]
  simp
  try intros
  try (cases u <;> cases u' <;> decide)
end Go.Proofs.Ytoaffiooliclgaa
