/- Ranges of results: what Do comes to; each result is held. No walk is in here. -/
import Derived.Test.YtcfnglbcgkappaaGreatBdL
set_option linter.unusedVariables false
set_option linter.unusedSimpArgs false
namespace Go.Proofs.YtcfnglbcgkappaaGreat
open Go.RowKit

def blenN (n : Nat) : Nat := if n = 0 then 0 else Nat.log2 n + 1
def bfill (v : Int) : Int := 2 ^ blenN v.toNat - 1
theorem blen_lt (n : Nat) : n < 2 ^ blenN n := by
  unfold blenN
  split
  · subst_vars; simp
  · exact Nat.lt_log2_self
theorem blen_ge {n : Nat} (h : n ≠ 0) : 2 ^ (blenN n - 1) ≤ n := by
  unfold blenN
  rw [if_neg h]
  exact Nat.log2_self_le h
theorem blen_le {n k : Nat} (h : n < 2 ^ k) : blenN n ≤ k := by
  rcases Nat.eq_zero_or_pos n with h0 | h0
  · simp [blenN, h0]
  · have h1 := blen_ge (n := n) (by omega)
    rcases Nat.lt_or_ge k (blenN n) with hk | hk
    · have : 2 ^ k ≤ 2 ^ (blenN n - 1) := Nat.pow_le_pow_right (by omega) (by omega)
      omega
    · exact hk
theorem bfill_le {v m : Int} (h0 : 0 ≤ v) (h : v.toNat < 2 ^ blenN m.toNat) : v ≤ bfill m := by
  unfold bfill
  have : ((2 : Int) ^ blenN m.toNat) = ((2 ^ blenN m.toNat : Nat) : Int) := by simp
  rw [this]
  omega
theorem bfill_bd {v : Int} (h : v ≤ 18446744073709551615) : 0 ≤ bfill v ∧ bfill v ≤ 18446744073709551615 := by
  have h1 : v.toNat < 2 ^ 64 := by omega
  have h2 := blen_le h1
  have h3 : 2 ^ blenN v.toNat ≤ 2 ^ 64 := Nat.pow_le_pow_right (by omega) h2
  have h4 : 0 < 2 ^ blenN v.toNat := Nat.pow_pos (by omega)
  unfold bfill
  have : ((2 : Int) ^ blenN v.toNat) = ((2 ^ blenN v.toNat : Nat) : Int) := by simp
  rw [this]
  omega
def bsum (a b : Rg) : Rg :=
  ⟨if a.uh + b.uh ≤ 18446744073709551615 then a.ul + b.ul else 0, if a.uh + b.uh ≤ 18446744073709551615 then a.uh + b.uh else 18446744073709551615,
   if (-9223372036854775808 ≤ a.sl + b.sl ∧ a.sl + b.sl ≤ 9223372036854775807) ∧ (-9223372036854775808 ≤ a.sh + b.sh ∧ a.sh + b.sh ≤ 9223372036854775807) then a.sl + b.sl else -9223372036854775808,
   if (-9223372036854775808 ≤ a.sl + b.sl ∧ a.sl + b.sl ≤ 9223372036854775807) ∧ (-9223372036854775808 ≤ a.sh + b.sh ∧ a.sh + b.sh ≤ 9223372036854775807) then a.sh + b.sh else 9223372036854775807⟩
def bdif (a b : Rg) : Rg :=
  ⟨if b.uh ≤ a.ul then a.ul - b.uh else 0, if b.uh ≤ a.ul then a.uh - b.ul else 18446744073709551615,
   if (-9223372036854775808 ≤ a.sl - b.sh ∧ a.sl - b.sh ≤ 9223372036854775807) ∧ (-9223372036854775808 ≤ a.sh - b.sl ∧ a.sh - b.sl ≤ 9223372036854775807) then a.sl - b.sh else -9223372036854775808,
   if (-9223372036854775808 ≤ a.sl - b.sh ∧ a.sl - b.sh ≤ 9223372036854775807) ∧ (-9223372036854775808 ≤ a.sh - b.sl ∧ a.sh - b.sl ≤ 9223372036854775807) then a.sh - b.sl else 9223372036854775807⟩
def bu (l h : Int) : Rg := ⟨l, h, -9223372036854775808, 9223372036854775807⟩
def bby (b : Rg) : Nat := (b.ul % 64).toNat
def bdo0 (op : Int) (a b : Rg) : Rg :=
  if op = 11 then b else if op = 0 then bsum a b else if op = 1 then bdif a b
  else if op = 5 then bu 0 (min a.uh b.uh)
  else if op = 4 then bu (max a.ul b.ul) (bfill (max a.uh b.uh))
  else if op = 10 then bu 0 (bfill (max a.uh b.uh))
  else if op = 3 then (if 0 < b.ul then bu (a.ul / b.uh) (a.uh / b.ul) else bu 0 a.uh)
  else if op = 9 then (if 0 < b.ul then bu 0 (min a.uh (b.uh - 1)) else bu 0 a.uh)
  else if op = 7 then (if bones b = true then bu (a.ul / 2 ^ bby b) (a.uh / 2 ^ bby b) else ball)
  else if op = 6 then (if bones b = true ∧ blenN a.uh.toNat + bby b ≤ 64 then bu (a.ul * 2 ^ bby b) (a.uh * 2 ^ bby b) else ball)
  else ball
def bdo (op : Int) (a b : Rg) : Rg := if bmay a = true ∧ bmay b = true then bnar (bdo0 op a b) else ball

theorem has_ball (v : Int) (h0 : 0 ≤ v) (h1 : v ≤ 18446744073709551615) : bhas ball v = true := by
  rw [bhas_iff]
  have := s64_bd v
  exact ⟨h0, h1, this.1, this.2⟩
theorem has_bu {l h v : Int} (h0 : l ≤ v) (h1 : v ≤ h) : bhas (bu l h) v = true := by
  rw [bhas_iff]
  have := s64_bd v
  exact ⟨h0, h1, this.1, this.2⟩
theorem has_nar {r : Rg} (hr : r.wf) {v : Int} (h0 : 0 ≤ v) (h1 : v ≤ 18446744073709551615) (h : bhas r v = true) : bhas (bnar r) v = true := by
  rw [bhas_bnar hr h0 h1 (bhas_nok hr h0 h1 h), h]
theorem has_sum {a b : Rg} (ha : a.wf) (hb : b.wf) {v w : Int} (v0 : 0 ≤ v) (v1 : v ≤ 18446744073709551615) (w0 : 0 ≤ w) (w1 : w ≤ 18446744073709551615) (h1 : bhas a v = true) (h2 : bhas b w = true) :
    bhas (bsum a b) ((v + w) % 18446744073709551616) = true := by
  rw [bhas_iff] at h1 h2 ⊢
  rw [s64_eq v0 v1] at h1
  rw [s64_eq w0 w1] at h2
  rw [s64_eq (by omega) (by omega)]
  obtain ⟨a1, a2, a3, a4⟩ := ha
  obtain ⟨b1, b2, b3, b4⟩ := hb
  unfold bsum
  simp only
  refine ⟨?_, ?_, ?_, ?_⟩
  · split <;> omega
  · split <;> omega
  · split <;> split at h1 <;> split at h2 <;> split <;> omega
  · split <;> split at h1 <;> split at h2 <;> split <;> omega
theorem has_dif {a b : Rg} (ha : a.wf) (hb : b.wf) {v w : Int} (v0 : 0 ≤ v) (v1 : v ≤ 18446744073709551615) (w0 : 0 ≤ w) (w1 : w ≤ 18446744073709551615) (h1 : bhas a v = true) (h2 : bhas b w = true) :
    bhas (bdif a b) ((v - w) % 18446744073709551616) = true := by
  rw [bhas_iff] at h1 h2 ⊢
  rw [s64_eq v0 v1] at h1
  rw [s64_eq w0 w1] at h2
  rw [s64_eq (by omega) (by omega)]
  obtain ⟨a1, a2, a3, a4⟩ := ha
  obtain ⟨b1, b2, b3, b4⟩ := hb
  unfold bdif
  simp only
  refine ⟨?_, ?_, ?_, ?_⟩
  · split <;> omega
  · split <;> omega
  · split <;> split at h1 <;> split at h2 <;> split <;> omega
  · split <;> split at h1 <;> split at h2 <;> split <;> omega
theorem wf_bu {l h : Int} (h0 : 0 ≤ l) (h1 : l ≤ 18446744073709551615) (h2 : 0 ≤ h) (h3 : h ≤ 18446744073709551615) : (bu l h).wf := ⟨⟨h0, h1⟩, ⟨h2, h3⟩, by simp [bu], by simp [bu]⟩
theorem wf_bsum {a b : Rg} (ha : a.wf) (hb : b.wf) (h1 : bmay a = true) (h2 : bmay b = true) : (bsum a b).wf := by
  rw [bmay_iff] at h1 h2
  obtain ⟨a1, a2, a3, a4⟩ := ha
  obtain ⟨b1, b2, b3, b4⟩ := hb
  unfold bsum
  refine ⟨?_, ?_, ?_, ?_⟩ <;> simp only <;> split <;> omega
theorem wf_bdif {a b : Rg} (ha : a.wf) (hb : b.wf) (h1 : bmay a = true) (h2 : bmay b = true) : (bdif a b).wf := by
  rw [bmay_iff] at h1 h2
  obtain ⟨a1, a2, a3, a4⟩ := ha
  obtain ⟨b1, b2, b3, b4⟩ := hb
  unfold bdif
  refine ⟨?_, ?_, ?_, ?_⟩ <;> simp only <;> split <;> omega
theorem shr_bd {x : Int} (h0 : 0 ≤ x) (k : Nat) : 0 ≤ x / 2 ^ k ∧ x / 2 ^ k ≤ x := by
  have hp : (0 : Int) < 2 ^ k := Int.pow_pos (by omega)
  refine ⟨Int.ediv_nonneg h0 (by omega), Int.ediv_le_self _ h0⟩
theorem shl_bd {x y : Int} (h0 : 0 ≤ x) (hy : x ≤ y) {k : Nat} (h : blenN y.toNat + k ≤ 64) : 0 ≤ x * 2 ^ k ∧ x * 2 ^ k ≤ y * 2 ^ k ∧ y * 2 ^ k ≤ 18446744073709551615 := by
  have hp : (0 : Int) < 2 ^ k := Int.pow_pos (by omega)
  refine ⟨Int.mul_nonneg h0 (by omega), Int.mul_le_mul_of_nonneg_right hy (by omega), ?_⟩
  have h1 := blen_lt y.toNat
  have h2 : (y.toNat + 1) * 2 ^ k ≤ 2 ^ blenN y.toNat * 2 ^ k := Nat.mul_le_mul_right _ (by omega)
  rw [← Nat.pow_add] at h2
  have h3 : 2 ^ (blenN y.toNat + k) ≤ 2 ^ 64 := Nat.pow_le_pow_right (by omega) h
  have h4 : 0 < 2 ^ k := Nat.pow_pos (by omega)
  have e : y * 2 ^ k = ((y.toNat * 2 ^ k : Nat) : Int) := by
    have : ((y.toNat : Nat) : Int) = y := by omega
    rw [Int.natCast_mul, this]; simp
  rw [e]
  rw [Nat.add_mul] at h2
  omega
theorem div_anti {x y z : Int} (h0 : 0 ≤ x) (hz : 0 < z) (h : z ≤ y) : x / y ≤ x / z := by
  have hy : 0 < y := by omega
  refine Int.le_ediv_of_mul_le hz ?_
  have h1 : x / y * z ≤ x / y * y := Int.mul_le_mul_of_nonneg_left h (Int.ediv_nonneg h0 (by omega))
  have h2 := Int.ediv_mul_le x (show y ≠ 0 by omega)
  omega
theorem div_bd {x y z : Int} (h0 : 0 ≤ x) (h1 : x ≤ 18446744073709551615) (hy : 0 < y) : 0 ≤ x / y ∧ x / y ≤ 18446744073709551615 := by
  have := Int.ediv_le_self y h0
  exact ⟨Int.ediv_nonneg h0 (by omega), by omega⟩
theorem wf_bdo0 {op : Int} {a b : Rg} (ha : a.wf) (hb : b.wf) (h1 : bmay a = true) (h2 : bmay b = true) : (bdo0 op a b).wf := by
  have m1 := (bmay_iff a).1 h1
  have m2 := (bmay_iff b).1 h2
  have ha' := ha
  have hb' := hb
  obtain ⟨a1, a2, a3, a4⟩ := ha'
  obtain ⟨b1, b2, b3, b4⟩ := hb'
  have f := bfill_bd (v := max a.uh b.uh) (by omega)
  unfold bdo0
  by_cases o11 : op = 11
  · rw [if_pos o11]
    exact hb
  rw [if_neg o11]
  by_cases o0 : op = 0
  · rw [if_pos o0]
    exact wf_bsum ha hb h1 h2
  rw [if_neg o0]
  by_cases o1 : op = 1
  · rw [if_pos o1]
    exact wf_bdif ha hb h1 h2
  rw [if_neg o1]
  by_cases o5 : op = 5
  · rw [if_pos o5]
    exact wf_bu (by omega) (by omega) (by omega) (by omega)
  rw [if_neg o5]
  by_cases o4 : op = 4
  · rw [if_pos o4]
    exact wf_bu (by omega) (by omega) f.1 f.2
  rw [if_neg o4]
  by_cases o10 : op = 10
  · rw [if_pos o10]
    exact wf_bu (by omega) (by omega) f.1 f.2
  rw [if_neg o10]
  by_cases o3 : op = 3
  · rw [if_pos o3]
    split
    · have e1 := div_bd (z := 0) a1.1 a1.2 (show 0 < b.uh by omega)
      have e2 := div_bd (z := 0) a2.1 a2.2 (show 0 < b.ul by omega)
      exact wf_bu e1.1 e1.2 e2.1 e2.2
    · exact wf_bu (by omega) (by omega) (by omega) (by omega)
  rw [if_neg o3]
  by_cases o9 : op = 9
  · rw [if_pos o9]
    split
    · exact wf_bu (by omega) (by omega) (by omega) (by omega)
    · exact wf_bu (by omega) (by omega) (by omega) (by omega)
  rw [if_neg o9]
  by_cases o7 : op = 7
  · rw [if_pos o7]
    split
    · have e1 := shr_bd a1.1 (bby b)
      have e2 := shr_bd a2.1 (bby b)
      exact wf_bu e1.1 (by omega) e2.1 (by omega)
    · exact wf_ball
  rw [if_neg o7]
  by_cases o6 : op = 6
  · rw [if_pos o6]
    split
    · rename_i h
      have e1 := shl_bd a1.1 m1.1 h.2
      exact wf_bu e1.1 (by omega) (by omega) (by omega)
    · exact wf_ball
  rw [if_neg o6]
  exact wf_ball
theorem wf_bdo {op : Int} {a b : Rg} (ha : a.wf) (hb : b.wf) : (bdo op a b).wf := by
  unfold bdo
  split
  · rename_i h
    exact wf_bnar (wf_bdo0 ha hb h.1 h.2)
  · exact wf_ball
theorem zdo64 (op a b : Int) : zdo op 64 a b = zop op 64 a b (b % 64) := by
  unfold zdo; rw [zcut_64, zcut_64, zcut_64]
theorem has_do {op : Int} {a b : Rg} (ha : a.wf) (hb : b.wf) {v w : Int} (v0 : 0 ≤ v) (v1 : v ≤ 18446744073709551615) (w0 : 0 ≤ w) (w1 : w ≤ 18446744073709551615) (h1 : bhas a v = true) (h2 : bhas b w = true)
    (hz0 : 0 ≤ zdo op 64 v w) (hz1 : zdo op 64 v w ≤ 18446744073709551615) : bhas (bdo op a b) (zdo op 64 v w) = true := by
  have m1 := bhas_may h1
  have m2 := bhas_may h2
  have x1 := (bhas_iff a v).1 h1
  have x2 := (bhas_iff b w).1 h2
  unfold bdo
  rw [if_pos ⟨m1, m2⟩]
  refine has_nar (wf_bdo0 ha hb m1 m2) hz0 hz1 ?_
  rw [zdo64] at hz0 hz1 ⊢
  have hmx : v.toNat < 2 ^ blenN (max a.uh b.uh).toNat ∧ w.toNat < 2 ^ blenN (max a.uh b.uh).toNat := by
    have := blen_lt (max a.uh b.uh).toNat
    omega
  unfold bdo0
  unfold zop at hz0 hz1 ⊢
  by_cases o11 : op = 11
  · subst o11; simpa using h2
  rw [if_neg o11]
  by_cases o0 : op = 0
  · subst o0; simpa using has_sum ha hb v0 v1 w0 w1 h1 h2
  rw [if_neg o0]
  by_cases o1 : op = 1
  · subst o1; simpa using has_dif ha hb v0 v1 w0 w1 h1 h2
  rw [if_neg o1]
  by_cases o5 : op = 5
  · subst o5
    have e1 : v.toNat &&& w.toNat ≤ v.toNat := Nat.and_le_left
    have e2 : v.toNat &&& w.toNat ≤ w.toNat := Nat.and_le_right
    simp at hz0 hz1 ⊢
    exact has_bu (by omega) (by omega)
  rw [if_neg o5]
  by_cases o4 : op = 4
  · subst o4
    have e1 : v.toNat ≤ v.toNat ||| w.toNat := Nat.left_le_or
    have e2 : w.toNat ≤ v.toNat ||| w.toNat := Nat.right_le_or
    have e3 := Nat.or_lt_two_pow hmx.1 hmx.2
    simp at hz0 hz1 ⊢
    exact has_bu (by omega) (bfill_le (by omega) (by simpa using e3))
  rw [if_neg o4]
  by_cases o10 : op = 10
  · subst o10
    have e3 := Nat.xor_lt_two_pow hmx.1 hmx.2
    simp at hz0 hz1 ⊢
    exact has_bu (by omega) (bfill_le (by omega) (by simpa using e3))
  rw [if_neg o10]
  by_cases o3 : op = 3
  · subst o3
    simp at hz0 hz1 ⊢
    by_cases hb0 : 0 < b.ul
    · rw [if_pos hb0, if_neg (by omega)]
      refine has_bu ?_ ?_
      · exact Int.le_trans (Int.ediv_le_ediv (by omega) x1.1) (by
          have := ha.1
          exact div_anti (by omega) (by omega) x2.2.1)
      · exact Int.le_trans (Int.ediv_le_ediv (by omega) x1.2.1) (div_anti (by have := ha.2.1; omega) hb0 x2.1)
    · rw [if_neg hb0]
      refine has_bu (by omega) ?_
      split
      · omega
      · have := Int.ediv_le_self w v0; omega
  rw [if_neg o3]
  by_cases o9 : op = 9
  · subst o9
    simp at hz0 hz1 ⊢
    by_cases hb0 : 0 < b.ul
    · rw [if_pos hb0, if_neg (by omega)]
      have e1 := Int.emod_lt_of_pos v (show 0 < w by omega)
      have e2 := Int.emod_nonneg v (show w ≠ 0 by omega)
      have e3 : v % w ≤ v := by
        have := Int.emod_add_mul_ediv v w
        have h4 : 0 ≤ w * (v / w) := Int.mul_nonneg w0 (Int.ediv_nonneg v0 w0)
        omega
      exact has_bu e2 (by omega)
    · rw [if_neg hb0]
      split
      · exact has_bu v0 (by omega)
      · have e2 := Int.emod_nonneg v (show w ≠ 0 by omega)
        have e3 : v % w ≤ v := by
          have := Int.emod_add_mul_ediv v w
          have h4 : 0 ≤ w * (v / w) := Int.mul_nonneg w0 (Int.ediv_nonneg v0 w0)
          omega
        exact has_bu e2 (by omega)
  rw [if_neg o9]
  have hsh : bones b = true → (w % 64).toNat = bby b := by
    intro h
    have := bone_only h w0 w1
    rw [h2] at this
    have := of_decide_eq_true this.symm
    unfold bby; rw [this]
  by_cases o7 : op = 7
  · subst o7
    simp at hz0 hz1 ⊢
    by_cases hs : bones b = true
    · rw [if_pos hs, hsh hs]
      have hp : (0 : Int) < 2 ^ bby b := Int.pow_pos (by omega)
      exact has_bu (Int.ediv_le_ediv hp x1.1) (Int.ediv_le_ediv hp x1.2.1)
    · rw [if_neg hs]; exact has_ball _ hz0 hz1
  rw [if_neg o7]
  by_cases o6 : op = 6
  · subst o6
    simp at hz0 hz1 ⊢
    by_cases hs : bones b = true ∧ blenN a.uh.toNat + bby b ≤ 64
    · rw [if_pos hs, hsh hs.1]
      have hp : (0 : Int) < 2 ^ bby b := Int.pow_pos (by omega)
      have e1 := shl_bd v0 x1.2.1 hs.2
      rw [Int.emod_eq_of_lt e1.1 (by omega)]
      exact has_bu (Int.mul_le_mul_of_nonneg_right x1.1 (by omega)) e1.2.1
    · rw [if_neg hs]; exact has_ball _ hz0 hz1
  rw [if_neg o6]
  exact has_ball _ hz0 hz1
end Go.Proofs.YtcfnglbcgkappaaGreat
