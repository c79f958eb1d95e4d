/- Memories of four regions: numbers put together, what is fetched. No walk is in here. -/
import Derived.Test.YtmabagpagmcnlaaMmA
set_option linter.unusedSimpArgs false
set_option linter.unusedVariables false
set_option linter.unusedVariables false
set_option linter.unusedSimpArgs false
namespace Go.Proofs.Ytmabagpagmcnlaa
open Go Go.RowKit

/-- A region's bytes. -/
def Mem.Row (m : Mem) (b : Int) (l : List (List Int)) : Prop := (b = m.b0 ∧ l = m.l0) ∨ (b = m.b1 ∧ l = m.l1) ∨ (b = m.b2 ∧ l = m.l2) ∨ (b = m.b3 ∧ l = m.l3)
theorem inr_iff {b : Int} {l : List (List Int)} {a n : Int} : inr b l a n = true ↔ b ≤ a ∧ a - b + n ≤ (l.length : Int) := by
  simp [inr]
theorem inr_false {b : Int} {l : List (List Int)} {a n : Int} (h : ¬ (b ≤ a ∧ a - b + n ≤ (l.length : Int))) : inr b l a n = false := by
  cases hq : inr b l a n with
  | false => rfl
  | true => exact absurd (inr_iff.1 hq) h
structure Mem.Lim (m : Mem) : Prop where
  b0 : m.b0 = 1048576
  b1 : m.b1 = 2097152
  b2 : m.b2 = 3145728
  b3 : m.b3 = 4194304
  l0 : m.l0.length ≤ 16384
  l1 : m.l1.length ≤ 256
  l2 : m.l2.length = 64
  l3 : m.l3.length ≤ 264
theorem Mem.fit.lim {m : Mem} (h : m.fit) : m.Lim := ⟨h.b0, h.b1, h.b2, h.b3, h.l0, h.l1, h.l2, h.l3⟩
theorem rd_row {m : Mem} (hf : m.Lim) {b : Int} {l : List (List Int)} {a n : Int} (h : m.Row b l) (hi : inr b l a n = true) (hs : sized n = true) : rdE m a n = 0 ∧ rdV m a n = numL (winL b l a n) := by
  have hi' := inr_iff.1 hi
  have hn := sized_n hs
  obtain ⟨e0, e1, e2, e3, g0, g1, g2, g3⟩ := hf
  rcases h with ⟨rfl, rfl⟩ | ⟨rfl, rfl⟩ | ⟨rfl, rfl⟩ | ⟨rfl, rfl⟩
  · simp [rdE, rdV, Mem.reg, hs, hi]
  · have f0 : inr m.b0 m.l0 a n = false := inr_false (by omega)
    simp [rdE, rdV, Mem.reg, hs, hi, f0]
  · have f0 : inr m.b0 m.l0 a n = false := inr_false (by omega)
    have f1 : inr m.b1 m.l1 a n = false := inr_false (by omega)
    simp [rdE, rdV, Mem.reg, hs, hi, f0, f1]
  · have f0 : inr m.b0 m.l0 a n = false := inr_false (by omega)
    have f1 : inr m.b1 m.l1 a n = false := inr_false (by omega)
    have f2 : inr m.b2 m.l2 a n = false := inr_false (by omega)
    simp [rdE, rdV, Mem.reg, hs, hi, f0, f1, f2]
theorem rd_some {m : Mem} {a n : Int} (h : rdE m a n = 0) : sized n = true ∧ ∃ b l, m.Row b l ∧ inr b l a n = true := by
  unfold rdE at h
  split at h
  · rename_i hs
    refine ⟨hs, ?_⟩
    unfold Mem.reg at h
    by_cases h0 : inr m.b0 m.l0 a n = true
    · exact ⟨_, _, .inl ⟨rfl, rfl⟩, h0⟩
    · by_cases h1 : inr m.b1 m.l1 a n = true
      · exact ⟨_, _, .inr (.inl ⟨rfl, rfl⟩), h1⟩
      · by_cases h2 : inr m.b2 m.l2 a n = true
        · exact ⟨_, _, .inr (.inr (.inl ⟨rfl, rfl⟩)), h2⟩
        · by_cases h3 : inr m.b3 m.l3 a n = true
          · exact ⟨_, _, .inr (.inr (.inr ⟨rfl, rfl⟩)), h3⟩
          · simp [h0, h1, h2, h3] at h
  · cases h
theorem Mem.Row.lim {m : Mem} (hf : m.Lim) {b : Int} {l : List (List Int)} (h : m.Row b l) : 0 ≤ b ∧ b ≤ 4194304 ∧ l.length ≤ 16384 := by
  obtain ⟨e0, e1, e2, e3, g0, g1, g2, g3⟩ := hf
  rcases h with ⟨rfl, rfl⟩ | ⟨rfl, rfl⟩ | ⟨rfl, rfl⟩ | ⟨rfl, rfl⟩ <;> omega
theorem numL_append : ∀ (x y : List (List Int)), numL (x ++ y) = numL x + 256 ^ x.length * numL y
  | [], y => by simp [numL]
  | r :: x, y => by
    rw [List.cons_append, numL, numL, numL_append x y, List.length_cons, Int.pow_succ, Int.mul_add, Int.mul_comm (256 ^ x.length) 256, Int.mul_assoc]
    omega
theorem win_split {b : Int} {l : List (List Int)} {a n : Int} (hb : b ≤ a) (hn : 0 ≤ n) : winL b l a (2 * n) = winL b l a n ++ winL b l (a + n) n := by
  unfold winL
  rw [show (2 * n).toNat = n.toNat + n.toNat by omega, show (a + n - b).toNat = (a - b).toNat + n.toNat by omega, ← List.drop_drop, List.take_add]
theorem or_hi {v w : Int} (s : Nat) (hs : s ≤ 32) (hw0 : 0 ≤ w) (hw : w < 2 ^ s) (hv0 : 0 ≤ v) (hv : v < 2 ^ s) : opI .or .u64 (opI .shl .u64 v (s : Int)) w = w + 2 ^ s * v := by
  obtain ⟨n, rfl⟩ := Int.eq_ofNat_of_zero_le hv0
  obtain ⟨m, rfl⟩ := Int.eq_ofNat_of_zero_le hw0
  have hc : (2 : Int) ^ s = ((2 ^ s : Nat) : Int) := by rw [Int.natCast_pow]; rfl
  have hp : 2 ^ s ≤ 2 ^ 32 := Nat.pow_le_pow_right (by decide) hs
  have hp32 : 2 ^ 32 = 4294967296 := rfl
  rw [hc] at hw hv ⊢
  have hw' : m < 2 ^ s := by omega
  have hv' : n < 2 ^ s := by omega
  have hnn : n * 2 ^ s ≤ 4294967295 * 4294967296 := Nat.mul_le_mul (by omega) (by omega)
  have e1 : opI .shl .u64 (n : Int) (s : Int) = ((n * 2 ^ s : Nat) : Int) := by
    show IntKind.u64.wrap ((n : Int) * 2 ^ min ((s : Int)).toNat 64) = _
    rw [show min ((s : Int)).toNat 64 = s from by omega, hc, ← Int.natCast_mul]
    exact wrU (by omega) (by omega)
  rw [e1]
  have h := Nat.two_pow_add_eq_or_of_lt hw' n
  show bits .or .u64 _ _ = _
  rw [u64_or_nat _ _ (by omega) (by omega), Nat.mul_comm n, ← h, Int.natCast_add, Int.natCast_mul]
  omega
theorem numL_lt8 {l : List (List Int)} (h : RowsIn [some .u8] l) {n : Nat} (hl : l.length = n) : 0 ≤ numL l ∧ numL l < 2 ^ (8 * n) := by
  have h1 := numL_lt h
  rw [hl] at h1
  refine ⟨h1.1, ?_⟩
  rw [Int.pow_mul]
  exact h1.2
theorem rd_split {m : Mem} (hf : m.Lim) (hr : ∀ b l, m.Row b l → RowsIn [some .u8] l) {a n : Int} (ha : inK .u64 a = true) (hn : n = 1 ∨ n = 2 ∨ n = 4) (h : rdE m a (2 * n) = 0) :
    rdE m a n = 0 ∧ rdE m (opI .add .u64 a n) n = 0 ∧ rdV m a (2 * n) = opI .or .u64 (opI .shl .u64 (rdV m (opI .add .u64 a n) n) (8 * n)) (rdV m a n) := by
  obtain ⟨hs2, b, l, hrow, hi⟩ := rd_some h
  have hs : sized n = true := by rcases hn with rfl | rfl | rfl <;> rfl
  have hlim := hrow.lim hf
  have hi' := inr_iff.1 hi
  have h1 : inr b l a n = true := inr_iff.2 (by omega)
  have hadd : opI .add .u64 a n = a + n := wrU (by have := in_u64 ha; omega) (by omega)
  have h2 : inr b l (a + n) n = true := inr_iff.2 (by omega)
  rw [hadd]
  obtain ⟨p1, p2⟩ := rd_row hf hrow h1 hs
  obtain ⟨q1, q2⟩ := rd_row hf hrow h2 hs
  refine ⟨p1, q1, ?_⟩
  rw [(rd_row hf hrow hi hs2).2, p2, q2, win_split hi'.1 (by omega), numL_append]
  have hl := hr b l hrow
  have w1 : (winL b l a n).length = n.toNat := by unfold winL; rw [List.length_take, List.length_drop]; omega
  have w2 : (winL b l (a + n) n).length = n.toNat := by unfold winL; rw [List.length_take, List.length_drop]; omega
  have r1 : RowsIn [some .u8] (winL b l a n) := rows_take (rows_drop hl _) _
  have r2 : RowsIn [some .u8] (winL b l (a + n) n) := rows_take (rows_drop hl _) _
  have b1 := numL_lt8 r1 w1
  have b2 := numL_lt8 r2 w2
  rw [show 8 * n = ((8 * n.toNat : Nat) : Int) by omega, or_hi (8 * n.toNat) (by omega) b1.1 b1.2 b2.1 b2.2, w1, Int.pow_mul]
  rfl
/-- A memory as it was made. -/
def memOf (x y : List (List Int)) : Mem := ⟨1048576, y, false, 2097152, x, true, 3145728, List.replicate (Int.toNat 64) [0], true, 4194304, List.replicate (Int.toNat 264) [0], true⟩
theorem rows_rep (n : Nat) (hn : n ≤ maxLen) : RowsIn [some .u8] (List.replicate n [0]) := ⟨fun r hr => by rw [List.eq_of_mem_replicate hr]; rfl, by rw [List.length_replicate]; exact hn⟩
theorem memOf_fit {x y : List (List Int)} (hx : x.length ≤ 256) (hy : y.length ≤ 16384) : (memOf x y).fit := ⟨rfl, rfl, rfl, rfl, rfl, rfl, rfl, rfl, hy, hx, List.length_replicate, by show (List.replicate 264 [0]).length ≤ 264; rw [List.length_replicate]; decide⟩
theorem memOf_rows {x y : List (List Int)} (hx : RowsIn [some .u8] x) (hy : RowsIn [some .u8] y) : ∀ b l, (memOf x y).Row b l → RowsIn [some .u8] l := by
  intro b l h
  rcases h with ⟨_, rfl⟩ | ⟨_, rfl⟩ | ⟨_, rfl⟩ | ⟨_, rfl⟩
  · exact hy
  · exact hx
  · exact rows_rep _ (by decide)
  · exact rows_rep _ (by decide)
theorem ft_tail {m : Mem} (hf : m.Lim) {a : Int} (ha : inK .u64 a = true) (h : ftE m a = 0) : (ftL m a).length ≠ 0 ∧ (ftE m (opI .add .u64 a 1) = 0 → (ftL m a).drop 1 = ftL m (opI .add .u64 a 1)) ∧ (ftE m (opI .add .u64 a 1) ≠ 0 → (ftL m a).length = 1) := by
  obtain ⟨e0, _, _, _, g0, _, _, _⟩ := hf
  have hi : inr m.b0 m.l0 a 1 = true := by
    unfold ftE at h
    split at h
    · assumption
    · cases h
  have hi' := inr_iff.1 hi
  have hadd : opI .add .u64 a 1 = a + 1 := wrU (by omega) (by omega)
  have hL : ftL m a = m.l0.drop (a - m.b0).toNat := by unfold ftL; rw [if_pos hi]
  rw [hadd, hL]
  refine ⟨by rw [List.length_drop]; omega, fun h2 => ?_, fun h2 => ?_⟩
  · have hj : inr m.b0 m.l0 (a + 1) 1 = true := by
      unfold ftE at h2
      split at h2
      · assumption
      · cases h2
    unfold ftL
    rw [if_pos hj, List.drop_drop, show (a - m.b0).toNat + 1 = (a + 1 - m.b0).toNat by omega]
  · have hj : ¬ inr m.b0 m.l0 (a + 1) 1 = true := fun hj => h2 (by unfold ftE; rw [if_pos hj])
    rw [inr_iff] at hj
    rw [List.length_drop]; omega
end Go.Proofs.Ytmabagpagmcnlaa
