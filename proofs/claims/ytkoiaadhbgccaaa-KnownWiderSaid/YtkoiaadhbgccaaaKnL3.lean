/- What Do tells holds each result. No walk is in here. -/
import Derived.Test.YtkoiaadhbgccaaaKnL2
set_option linter.unusedVariables false
set_option linter.unusedSimpArgs false
namespace Go.Proofs.Ytkoiaadhbgccaaa
open Go.RowKit

theorem khas_mask {v m r : Int} (hm : 0 ≤ m ∧ m ≤ 18446744073709551615) : khas (kmask v m) r = true ↔ ∀ i, i < 64 → tb m i = false → tb r i = tb v i := by
  rw [khas_iff (wf_kmask hm)]
  constructor
  · intro h i hi h0
    have h1 : (tb r i && !tb m i) = tb (bits .andNot .u64 v m) i := (h i hi).2
    rw [tb_andNot _ _ hi, h0] at h1
    simpa using h1
  · intro h i hi
    show (tb (bits .andNot .u64 v m) i && tb m i) = false ∧ (tb r i && !tb m i) = tb (bits .andNot .u64 v m) i
    rw [tb_andNot _ _ hi]
    have := h i hi
    revert this
    cases tb v i <;> cases tb m i <;> cases tb r i <;> simp
theorem bit_nat (n : Nat) {i : Nat} (hi : i < 64) : tb (n : Int) i = n.testBit i := by
  unfold tb
  rw [BitVec.ofInt_natCast, BitVec.getLsbD_ofNat]
  simp [hi]
/-- Which bit of a number stands at bit i behind a shift: none, or one. -/
def src (op w : Int) (s i : Nat) : Option Nat :=
  if op = 6 then (if (i : Int) < w ∧ s ≤ i then some (i - s) else none)
  else if op = 7 then (if ((i + s : Nat) : Int) < w then some (i + s) else none)
  else (if (i : Int) < w then some (if ((i + s : Nat) : Int) < w then i + s else (w - 1).toNat) else none)
theorem src6 (w : Int) (s i : Nat) : src 6 w s i = if (i : Int) < w ∧ s ≤ i then some (i - s) else none := by unfold src; rw [if_pos rfl]
theorem src7 (w : Int) (s i : Nat) : src 7 w s i = if ((i + s : Nat) : Int) < w then some (i + s) else none := by unfold src; rw [if_neg (by decide), if_pos rfl]
theorem src12 (w : Int) (s i : Nat) : src 12 w s i = if (i : Int) < w then some (if ((i + s : Nat) : Int) < w then i + s else (w - 1).toNat) else none := by unfold src; rw [if_neg (by decide), if_neg (by decide)]
def atSrc (x : Int) : Option Nat → Bool
  | some j => tb x j
  | none => false
theorem nat_cut (n : Nat) (hn : n < 2 ^ 64) (w : Int) (hw : w = 32 ∨ w = 64) : ∃ m : Nat, zcut (n : Int) w = (m : Int) ∧ m < 2 ^ 64 ∧ ∀ i, m.testBit i = (decide ((i : Int) < w) && n.testBit i) := by
  rcases hw with rfl | rfl
  · refine ⟨n % 2 ^ 32, by rw [zcut_32]; omega, by omega, fun i => ?_⟩
    rw [Nat.testBit_mod_two_pow]
    congr 1
    rw [decide_eq_decide]; omega
  · refine ⟨n, by rw [zcut_64], hn, fun i => ?_⟩
    by_cases hi : i < 64
    · simp [show (i : Int) < 64 from by omega]
    · rw [Nat.testBit_lt_two_pow (Nat.lt_of_lt_of_le hn (Nat.pow_le_pow_right (by omega) (by omega)))]; simp
theorem sel_lsh (x : Int) (h0 : 0 ≤ x) (h1 : x ≤ 18446744073709551615) (w : Int) (hw : w = 32 ∨ w = 64) (s : Nat) (hs : (s : Int) < w) {i : Nat} (hi : i < 64) :
    tb (zcut ((zcut x w * 2 ^ s) % 18446744073709551616) w) i = atSrc x (src 6 w s i) := by
  obtain ⟨n, rfl⟩ := Int.eq_ofNat_of_zero_le h0
  obtain ⟨m, hm, hml, hmb⟩ := nat_cut n (by omega) w hw
  have e : ((m : Int) * 2 ^ s) % 18446744073709551616 = (((m * 2 ^ s) % 2 ^ 64 : Nat) : Int) := by
    rw [show ((2 : Int) ^ s) = ((2 ^ s : Nat) : Int) from by simp, ← Int.natCast_mul]; omega
  rw [hm, e]
  obtain ⟨m2, hm2, _, hmb2⟩ := nat_cut ((m * 2 ^ s) % 2 ^ 64) (Nat.mod_lt _ (by decide)) w hw
  rw [hm2, bit_nat _ hi, hmb2, Nat.testBit_mod_two_pow, show m * 2 ^ s = m <<< s from (Nat.shiftLeft_eq m s).symm, Nat.testBit_shiftLeft, hmb]
  rw [src6]
  simp only [hi, decide_true, Bool.true_and]
  by_cases hl : (i : Int) < w
  · by_cases hsi : s ≤ i
    · have h2 : ((i - s : Nat) : Int) < w := by omega
      rw [if_pos ⟨hl, hsi⟩]
      simp only [hl, hsi, h2, decide_true, Bool.true_and, atSrc, ge_iff_le]
      rw [bit_nat _ (by omega)]
    · rw [if_neg (fun h => hsi h.2)]
      simp [hsi, atSrc]
  · rw [if_neg (fun h => hl h.1)]
    simp [hl, atSrc]
theorem sel_rsh (x : Int) (h0 : 0 ≤ x) (h1 : x ≤ 18446744073709551615) (w : Int) (hw : w = 32 ∨ w = 64) (s : Nat) (hs : (s : Int) < w) {i : Nat} (hi : i < 64) :
    tb (zcut (zcut x w / 2 ^ s) w) i = atSrc x (src 7 w s i) := by
  obtain ⟨n, rfl⟩ := Int.eq_ofNat_of_zero_le h0
  obtain ⟨m, hm, hml, hmb⟩ := nat_cut n (by omega) w hw
  have e : (m : Int) / 2 ^ s = ((m / 2 ^ s : Nat) : Int) := by
    rw [show ((2 : Int) ^ s) = ((2 ^ s : Nat) : Int) from by simp, ← Int.natCast_ediv]
  rw [hm, e]
  have hle : m / 2 ^ s ≤ m := Nat.div_le_self _ _
  obtain ⟨m2, hm2, _, hmb2⟩ := nat_cut (m / 2 ^ s) (by omega) w hw
  rw [hm2, bit_nat _ hi, hmb2, ← Nat.shiftRight_eq_div_pow, Nat.testBit_shiftRight, hmb]
  rw [src7]
  by_cases hl : ((i + s : Nat) : Int) < w
  · have h2 : (i : Int) < w := by omega
    have h3 : ((s + i : Nat) : Int) < w := by omega
    rw [if_pos hl]
    simp only [h2, h3, decide_true, Bool.true_and, atSrc]
    rw [bit_nat _ (by omega), Nat.add_comm]
  · have h3 : ¬ ((s + i : Nat) : Int) < w := by omega
    rw [if_neg hl]
    simp only [h3, decide_false, Bool.false_and, Bool.and_false, atSrc]
/-- The bits of a number made longer with its sign. -/
theorem sign_bits (x : Int) (h0 : 0 ≤ x) (h1 : x ≤ 18446744073709551615) (w : Int) (hw : w = 32 ∨ w = 64) : (0 ≤ zsign (zcut x w) w ∧ zsign (zcut x w) w ≤ 18446744073709551615) ∧ ∀ j, j < 64 → tb (zsign (zcut x w) w) j = tb x (if (j : Int) < w then j else (w - 1).toNat) := by
  rcases hw with rfl | rfl
  · obtain ⟨n, rfl⟩ := Int.eq_ofNat_of_zero_le h0
    have hz : zsign (zcut (n : Int) 32) 32 = (((if n % 2 ^ 32 < 2 ^ 31 then n % 2 ^ 32 else 2 ^ 32 * (2 ^ 32 - 1) + n % 2 ^ 32) : Nat) : Int) := by
      rw [zcut_32]
      unfold zsign zsgn
      rw [if_neg (by decide), if_neg (by decide), if_pos rfl]
      by_cases hc : n % 2 ^ 32 < 2 ^ 31
      · rw [if_pos hc, if_pos (by omega)]; omega
      · rw [if_neg hc, if_neg (by omega)]; omega
    refine ⟨by rw [hz]; split <;> omega, fun j hj => ?_⟩
    rw [hz, bit_nat _ hj]
    have hb : (n % 2 ^ 32).testBit 31 = decide (2 ^ 31 ≤ n % 2 ^ 32) := by
      rw [Nat.testBit_eq_decide_div_mod_eq, decide_eq_decide]; omega
    by_cases hc : n % 2 ^ 32 < 2 ^ 31
    · rw [if_pos hc, Nat.testBit_mod_two_pow]
      by_cases hl : (j : Int) < 32
      · rw [if_pos hl, bit_nat _ hj]; simp [show j < 32 from by omega]
      · rw [if_neg hl, bit_nat _ (by decide)]
        have h31 : n.testBit 31 = false := by
          have := Nat.testBit_mod_two_pow n 32 31
          rw [hb] at this
          simp at this
          have h2 : ¬ 2 ^ 31 ≤ n % 2 ^ 32 := by omega
          simpa [h2] using this.symm
        simp [show ¬ j < 32 from by omega, h31]
    · rw [if_neg hc, Nat.testBit_two_pow_mul_add _ (Nat.mod_lt _ (by decide))]
      by_cases hl : (j : Int) < 32
      · rw [if_pos hl, if_pos (by omega), Nat.testBit_mod_two_pow, bit_nat _ hj]; simp [show j < 32 from by omega]
      · rw [if_neg hl, if_neg (by omega), bit_nat _ (by decide), Nat.testBit_two_pow_sub_one]
        have h31 : n.testBit 31 = true := by
          have := Nat.testBit_mod_two_pow n 32 31
          rw [hb] at this
          have h2 : 2 ^ 31 ≤ n % 2 ^ 32 := by omega
          simpa [h2] using this.symm
        rw [show (32 - 1 : Int).toNat = 31 from rfl, h31]
        exact decide_eq_true (by omega)
  · rw [zcut_64]
    have hz : zsign x 64 = x := by simp [zsign]
    rw [hz]
    exact ⟨⟨h0, h1⟩, fun j hj => by rw [if_pos (by omega)]⟩
theorem sel_arsh (x : Int) (h0 : 0 ≤ x) (h1 : x ≤ 18446744073709551615) (w : Int) (hw : w = 32 ∨ w = 64) (s : Nat) (hs : (s : Int) < w) {i : Nat} (hi : i < 64) :
    tb (zcut ((wrap64 (zsign (zcut x w) w) / 2 ^ s) % 18446744073709551616) w) i = atSrc x (src 12 w s i) := by
  obtain ⟨⟨z0, z1⟩, hb⟩ := sign_bits x h0 h1 w hw
  have hwl : w ≤ 64 := by omega
  rw [tb_cut (by omega) (by omega) hw hi]
  have e1 : wrap64 (zsign (zcut x w) w) = (BitVec.ofInt 64 (zsign (zcut x w) w)).toInt := by
    rw [BitVec.toInt_ofInt, w_64, Int.bmod_def]
    simp only [Nat.reducePow]
    split <;> omega
  have e2 : tb ((wrap64 (zsign (zcut x w) w) / 2 ^ s) % 18446744073709551616) i = ((BitVec.ofInt 64 (zsign (zcut x w) w)).sshiftRight s).getLsbD i := by
    unfold tb
    have : BitVec.ofInt 64 ((wrap64 (zsign (zcut x w) w) / 2 ^ s) % 18446744073709551616) = (BitVec.ofInt 64 (zsign (zcut x w) w)).sshiftRight s := by
      rw [show ∀ z : Int, BitVec.ofInt 64 (z % 18446744073709551616) = BitVec.ofInt 64 z from fun z => by rw [← w_u64, bv_wrap], e1]
      rw [BitVec.sshiftRight, Int.shiftRight_eq_div_pow]
      simp
    rw [this]
  rw [e2, BitVec.getLsbD_sshiftRight]
  rw [src12]
  have hn : ¬ 64 ≤ i := by omega
  by_cases hl : (i : Int) < w
  · rw [if_pos hl]
    simp only [hl, hn, decide_true, decide_false, Bool.not_false, Bool.true_and, atSrc]
    by_cases h2 : ((i + s : Nat) : Int) < w
    · rw [if_pos h2, if_pos (by omega)]
      have := hb (s + i) (by omega)
      rw [if_pos (by omega)] at this
      rw [Nat.add_comm i s]
      exact this
    · rw [if_neg h2]
      by_cases h3 : s + i < 64
      · rw [if_pos h3]
        have := hb (s + i) h3
        rwa [if_neg (by omega)] at this
      · rw [if_neg h3, BitVec.msb_eq_getLsbD_last]
        have := hb 63 (by decide)
        rw [show 64 - 1 = 63 from rfl]
        rw [show (BitVec.ofInt 64 (zsign (zcut x w) w)).getLsbD 63 = tb (zsign (zcut x w) w) 63 from rfl, this]
        rcases hw with rfl | rfl
        · rfl
        · rfl
  · rw [if_neg hl]
    simp [hl, atSrc]

/-- The shifts as choices of bits. -/
theorem sel_do {op w : Int} (hop : op = 6 ∨ op = 7 ∨ op = 12) (hw : w = 32 ∨ w = 64) {x q : Int} (h0 : 0 ≤ x) (h1 : x ≤ 18446744073709551615) {s : Nat} (hs : (s : Int) < w) (hq : zcut q w % w = s) {i : Nat} (hi : i < 64) :
    tb (zdo op w x q) i = atSrc x (src op w s i) := by
  unfold zdo
  rw [hq]
  rcases hop with rfl | rfl | rfl
  · have e : zop 6 w (zcut x w) (zcut q w) s = (zcut x w * 2 ^ s) % 18446744073709551616 := by simp [zop]
    rw [e]; exact sel_lsh x h0 h1 w hw s hs hi
  · have e : zop 7 w (zcut x w) (zcut q w) s = zcut x w / 2 ^ s := by simp [zop]
    rw [e]; exact sel_rsh x h0 h1 w hw s hs hi
  · have e : zop 12 w (zcut x w) (zcut q w) s = (wrap64 (zsign (zcut x w) w) / 2 ^ s) % 18446744073709551616 := by simp [zop]
    rw [e]; exact sel_arsh x h0 h1 w hw s hs hi
theorem src_lt {op w : Int} (hw : w = 32 ∨ w = 64) {s i j : Nat} (h : src op w s i = some j) : j < 64 := by
  unfold src at h
  repeat' split at h
  all_goals (simp at h; try omega)
end Go.Proofs.Ytkoiaadhbgccaaa
