/- Texts KnQ, KnL1, KnL2, KnL3, KnL4, KnL5 in one. -/
import Derived.Test.YtcfnglbcgkappaaGreatKn
/- Plain laws of 64-bit numbers and known bits. -/
set_option linter.unusedVariables false
set_option linter.unusedSimpArgs false
namespace Go.Proofs.YtcfnglbcgkappaaGreat
open Go.RowKit

theorem or_zero {x y : Int} (h1 : 0 ≤ x) (h2 : x ≤ 18446744073709551615) (h3 : 0 ≤ y) (h4 : y ≤ 18446744073709551615) : (bits .or .u64 x y == 0) = ((x == 0) && (y == 0)) := by
  obtain ⟨a, rfl⟩ := Int.eq_ofNat_of_zero_le h1
  obtain ⟨b, rfl⟩ := Int.eq_ofNat_of_zero_le h3
  rw [u64_or_nat a b (by omega) (by omega), Bool.eq_iff_iff]
  simp only [beq_iff_eq, Bool.and_eq_true]
  constructor
  · intro h
    have h5 : a ||| b = 0 := by exact_mod_cast h
    have h6 := Nat.or_eq_zero_iff.1 h5
    omega
  · rintro ⟨h, h'⟩
    obtain rfl : a = 0 := by omega
    obtain rfl : b = 0 := by omega
    rfl
theorem xor_comm' (x y : Int) : bits .xor .u64 x y = bits .xor .u64 y x := by
  show IntKind.u64.wrap ((BitVec.ofInt 64 x ^^^ BitVec.ofInt 64 y).toNat : Int) = IntKind.u64.wrap ((BitVec.ofInt 64 y ^^^ BitVec.ofInt 64 x).toNat : Int)
  rw [BitVec.xor_comm]
theorem radd_eq (a b : Kn) : radd a b = kadd a b := by unfold radd kadd; rw [xor_comm']

theorem zlong32 : zlong 32 = true := rfl
theorem zlong64 : zlong 64 = true := rfl
theorem low_eq (w1 : Int) (h1 : 32 ≤ w1) (h2 : w1 ≤ 64) : IntKind.u64.wrap (IntKind.u64.wrap w1 - 1) = w1 - 1 := by rw [w_u64, w_u64]; omega
/-- The least number of bits from n on that lo and hi differ within. -/
def cfrom (lo hi : Int) : Nat → Nat → Nat
  | 0, n => n
  | k + 1, n => if lo / 2 ^ n = hi / 2 ^ n then n else cfrom lo hi k (n + 1)
def kcn (lo hi : Int) : Nat := cfrom lo hi 64 0
def kcommon (lo hi : Int) : Kn := if hi < lo then kall else kmask lo (2 ^ kcn lo hi - 1)

theorem pow_bd0 {n : Nat} (h : n ≤ 64) : (1 : Int) ≤ 2 ^ n ∧ (2 : Int) ^ n ≤ 2 ^ 64 := by
  have h1 : (1 : Nat) ≤ 2 ^ n := Nat.one_le_two_pow
  have h2 : (2 : Nat) ^ n ≤ 2 ^ 64 := Nat.pow_le_pow_right (by omega) h
  exact ⟨by exact_mod_cast h1, by exact_mod_cast h2⟩
theorem and_high (x n : Nat) (hn : n ≤ 64) (hx : x < 2 ^ 64) : x &&& (18446744073709551615 - (2 ^ n - 1)) = 0 ↔ x / 2 ^ n = 0 := by
  have hp : (2 : Nat) ^ n ≤ 2 ^ 64 := Nat.pow_le_pow_right (by omega) hn
  have hq : 1 ≤ (2 : Nat) ^ n := Nat.one_le_two_pow
  have e : 18446744073709551615 - (2 ^ n - 1) = 2 ^ 64 - ((2 ^ n - 1) + 1) := by omega
  have hlt : 2 ^ n - 1 < 2 ^ 64 := by omega
  constructor
  · intro h
    rw [← Nat.shiftRight_eq_div_pow]
    apply Nat.eq_of_testBit_eq
    intro i
    rw [Nat.testBit_shiftRight, Nat.zero_testBit]
    have h1 := congrArg (fun y => Nat.testBit y (n + i)) h
    simp only [Nat.zero_testBit, Nat.testBit_and, e, Nat.testBit_two_pow_sub_succ hlt, Nat.testBit_two_pow_sub_one] at h1
    by_cases h64 : n + i < 64
    · by_cases hb : Nat.testBit x (n + i) = true
      · exfalso; simp [h64, hb] at h1; omega
      · simpa using hb
    · exact Nat.testBit_lt_two_pow (Nat.lt_of_lt_of_le hx (Nat.pow_le_pow_right (by omega) (by omega)))
  · intro h
    apply Nat.eq_of_testBit_eq
    intro i
    rw [Nat.zero_testBit, Nat.testBit_and, e, Nat.testBit_two_pow_sub_succ hlt, Nat.testBit_two_pow_sub_one]
    by_cases hi : i < n
    · simp [hi]
    · have h2 : Nat.testBit x i = false := by
        have := congrArg (fun y => Nat.testBit y (i - n)) (Nat.shiftRight_eq_div_pow x n ▸ h)
        simp only [Nat.testBit_shiftRight, Nat.zero_testBit] at this
        rwa [show n + (i - n) = i from by omega] at this
      simp [h2]
theorem xor_zero_iff {x y : Nat} : x ^^^ y = 0 ↔ x = y := by
  constructor
  · intro h
    apply Nat.eq_of_testBit_eq
    intro i
    have := congrArg (fun z => Nat.testBit z i) h
    simp only [Nat.testBit_xor, Nat.zero_testBit] at this
    cases hx : Nat.testBit x i <;> cases hy : Nat.testBit y i <;> simp_all
  · rintro rfl
    simp
theorem diff_iff (lo hi : Int) (n : Nat) (hn : n ≤ 64) (h1 : 0 ≤ lo) (h2 : lo ≤ 18446744073709551615) (h3 : 0 ≤ hi) (h4 : hi ≤ 18446744073709551615) :
    bits .andNot .u64 (bits .xor .u64 lo hi) (2 ^ n - 1) = 0 ↔ lo / 2 ^ n = hi / 2 ^ n := by
  obtain ⟨a, rfl⟩ := Int.eq_ofNat_of_zero_le h1
  obtain ⟨b, rfl⟩ := Int.eq_ofNat_of_zero_le h3
  have hp : (2 : Nat) ^ n ≤ 2 ^ 64 := Nat.pow_le_pow_right (by omega) hn
  have hq : 1 ≤ (2 : Nat) ^ n := Nat.one_le_two_pow
  have ha : a < 2 ^ 64 := by omega
  have hb : b < 2 ^ 64 := by omega
  have hxl : a ^^^ b < 2 ^ 64 := Nat.xor_lt_two_pow ha hb
  have hm : ((2 : Int) ^ n - 1) = ((2 ^ n - 1 : Nat) : Int) := by rw [Int.ofNat_sub hq]; simp
  rw [u64_xor_nat a b (by omega) (by omega), hm, u64_andNot_nat (a ^^^ b) (2 ^ n - 1) (by omega) (by omega)]
  rw [show ((2 : Int) ^ n) = ((2 ^ n : Nat) : Int) from by simp]
  constructor
  · intro h
    have h5 := (and_high (a ^^^ b) n hn hxl).1 (by exact_mod_cast h)
    rw [← Nat.shiftRight_eq_div_pow, Nat.shiftRight_xor_distrib, xor_zero_iff, Nat.shiftRight_eq_div_pow, Nat.shiftRight_eq_div_pow] at h5
    exact_mod_cast h5
  · intro h
    have h5 : a / 2 ^ n = b / 2 ^ n := by exact_mod_cast h
    have h6 := (and_high (a ^^^ b) n hn hxl).2 (by rw [← Nat.shiftRight_eq_div_pow, Nat.shiftRight_xor_distrib, xor_zero_iff, Nat.shiftRight_eq_div_pow, Nat.shiftRight_eq_div_pow]; exact h5)
    exact_mod_cast h6
theorem mask_step (n : Nat) (hn : n < 64) : bits .or .u64 (IntKind.u64.wrap ((2 ^ n - 1) * 2)) 1 = 2 ^ (n + 1) - 1 := by
  have hp : (2 : Nat) ^ (n + 1) ≤ 2 ^ 64 := Nat.pow_le_pow_right (by omega) hn
  have hq : 1 ≤ (2 : Nat) ^ n := Nat.one_le_two_pow
  have h2 : (2 : Nat) ^ (n + 1) = 2 ^ n * 2 := Nat.pow_succ 2 n
  have hm : IntKind.u64.wrap (((2 : Int) ^ n - 1) * 2) = (((2 ^ n - 1) * 2 : Nat) : Int) := by
    rw [show ((2 : Int) ^ n) = ((2 ^ n : Nat) : Int) from by simp, w_u64]
    generalize (2 : Nat) ^ n = x at *
    omega
  rw [hm, show (1 : Int) = ((1 : Nat) : Int) from rfl, u64_or_nat _ _ (by omega) (by omega)]
  have : (2 ^ n - 1) * 2 ||| 1 = 2 ^ (n + 1) - 1 := by
    rw [Nat.mul_comm, show 2 * (2 ^ n - 1) = (2 ^ n - 1) <<< 1 from by rw [Nat.shiftLeft_eq]; omega]
    apply Nat.eq_of_testBit_eq
    intro i
    rw [Nat.testBit_or, Nat.testBit_shiftLeft, Nat.testBit_two_pow_sub_one, Nat.testBit_two_pow_sub_one]
    cases i with
    | zero => simp
    | succ i =>
      have e : Nat.testBit 1 (i + 1) = false := by simp [Nat.testBit_succ]
      rw [e]; simp
  rw [this]
  generalize hX : (2 : Nat) ^ (n + 1) = X at *
  rw [show ((2 : Int) ^ (n + 1)) = ((2 ^ (n + 1) : Nat) : Int) from by simp, hX]
  omega

end Go.Proofs.YtcfnglbcgkappaaGreat

/- Plain laws of known bits, bit by bit. No walk is in here. -/
set_option linter.unusedVariables false
set_option linter.unusedSimpArgs false
namespace Go.Proofs.YtcfnglbcgkappaaGreat
open Go.RowKit

/-- Bit i of a 64-bit number. -/
def tb (x : Int) (i : Nat) : Bool := (BitVec.ofInt 64 x).getLsbD i
theorem bv_toNat {x : Int} (h0 : 0 ≤ x) (h1 : x ≤ 18446744073709551615) : ((BitVec.ofInt 64 x).toNat : Int) = x := by
  rw [BitVec.toNat_ofInt]; omega
theorem bv_inj {x y : Int} (h0 : 0 ≤ x) (h1 : x ≤ 18446744073709551615) (h2 : 0 ≤ y) (h3 : y ≤ 18446744073709551615) (h : BitVec.ofInt 64 x = BitVec.ofInt 64 y) : x = y := by
  rw [← bv_toNat h0 h1, ← bv_toNat h2 h3, h]
theorem tb_ext {x y : Int} (hx : 0 ≤ x ∧ x ≤ 18446744073709551615) (hy : 0 ≤ y ∧ y ≤ 18446744073709551615) (h : ∀ i, i < 64 → tb x i = tb y i) : x = y :=
  bv_inj hx.1 hx.2 hy.1 hy.2 (BitVec.eq_of_getLsbD_eq fun i hi => h i hi)
theorem bv_wrap (x : Int) : BitVec.ofInt 64 (IntKind.u64.wrap x) = BitVec.ofInt 64 x := by
  apply BitVec.eq_of_toNat_eq
  rw [BitVec.toNat_ofInt, BitVec.toNat_ofInt, w_u64]
  omega
theorem bv_nat (x : BitVec 64) : BitVec.ofInt 64 (x.toNat : Int) = x := by simp
theorem bv_and (x y : Int) : BitVec.ofInt 64 (bits .and .u64 x y) = BitVec.ofInt 64 x &&& BitVec.ofInt 64 y := (bv_wrap _).trans (bv_nat _)
theorem bv_or (x y : Int) : BitVec.ofInt 64 (bits .or .u64 x y) = BitVec.ofInt 64 x ||| BitVec.ofInt 64 y := (bv_wrap _).trans (bv_nat _)
theorem bv_xor (x y : Int) : BitVec.ofInt 64 (bits .xor .u64 x y) = BitVec.ofInt 64 x ^^^ BitVec.ofInt 64 y := (bv_wrap _).trans (bv_nat _)
theorem bv_andNot (x y : Int) : BitVec.ofInt 64 (bits .andNot .u64 x y) = BitVec.ofInt 64 x &&& ~~~ BitVec.ofInt 64 y := (bv_wrap _).trans (bv_nat _)
theorem tb_and (x y : Int) (i : Nat) : tb (bits .and .u64 x y) i = (tb x i && tb y i) := by unfold tb; rw [bv_and, BitVec.getLsbD_and]
theorem tb_or (x y : Int) (i : Nat) : tb (bits .or .u64 x y) i = (tb x i || tb y i) := by unfold tb; rw [bv_or, BitVec.getLsbD_or]
theorem tb_xor (x y : Int) (i : Nat) : tb (bits .xor .u64 x y) i = (tb x i ^^ tb y i) := by unfold tb; rw [bv_xor, BitVec.getLsbD_xor]
theorem tb_andNot (x y : Int) {i : Nat} (hi : i < 64) : tb (bits .andNot .u64 x y) i = (tb x i && !tb y i) := by unfold tb; rw [bv_andNot, BitVec.getLsbD_and, BitVec.getLsbD_not]; simp [hi]
theorem tb_zero (i : Nat) : tb 0 i = false := by unfold tb; simp
theorem tb_ones {i : Nat} (hi : i < 64) : tb 18446744073709551615 i = true := by
  unfold tb
  rw [show BitVec.ofInt 64 18446744073709551615 = BitVec.allOnes 64 from by decide, BitVec.getLsbD_allOnes]
  exact decide_eq_true hi
theorem tb_eq {x y : Int} (hx : 0 ≤ x ∧ x ≤ 18446744073709551615) (hy : 0 ≤ y ∧ y ≤ 18446744073709551615) : (x == y) = true ↔ ∀ i, i < 64 → tb x i = tb y i := by
  rw [beq_iff_eq]
  exact ⟨fun h i _ => by rw [h], tb_ext hx hy⟩
theorem zero_bd : (0 : Int) ≤ 0 ∧ (0 : Int) ≤ 18446744073709551615 := by omega

theorem kmay_iff (a : Kn) : kmay a = true ↔ ∀ i, i < 64 → (tb a.v i && tb a.m i) = false := by
  unfold kmay
  rw [tb_eq (and_bd _ _) zero_bd]
  simp only [tb_and, tb_zero]
theorem khas_iff {a : Kn} (ha : a.wf) (x : Int) : khas a x = true ↔ ∀ i, i < 64 → (tb a.v i && tb a.m i) = false ∧ (tb x i && !tb a.m i) = tb a.v i := by
  unfold khas
  rw [Bool.and_eq_true, kmay_iff, tb_eq (andNot_bd _ _) ha.1]
  constructor
  · rintro ⟨h1, h2⟩ i hi
    exact ⟨h1 i hi, by have := h2 i hi; rwa [tb_andNot _ _ hi] at this⟩
  · intro h
    exact ⟨fun i hi => (h i hi).1, fun i hi => by rw [tb_andNot _ _ hi]; exact (h i hi).2⟩
theorem kin_iff {a b : Kn} (hb : b.wf) : kin a b = true ↔ ∀ i, i < 64 → (tb a.v i && tb a.m i) = false ∧ (tb b.v i && tb b.m i) = false ∧ (tb a.m i || tb b.m i) = tb b.m i ∧ (tb a.v i && !tb b.m i) = tb b.v i := by
  unfold kin
  rw [Bool.and_eq_true, Bool.and_eq_true, Bool.and_eq_true, kmay_iff, kmay_iff, tb_eq (or_bd _ _) hb.2, tb_eq (andNot_bd _ _) hb.1]
  constructor
  · rintro ⟨h1, h2, h3, h4⟩ i hi
    exact ⟨h1 i hi, h2 i hi, by have := h3 i hi; rwa [tb_or] at this, by have := h4 i hi; rwa [tb_andNot _ _ hi] at this⟩
  · intro h
    exact ⟨fun i hi => (h i hi).1, fun i hi => (h i hi).2.1, fun i hi => by rw [tb_or]; exact (h i hi).2.2.1, fun i hi => by rw [tb_andNot _ _ hi]; exact (h i hi).2.2.2⟩
theorem rin_iff {a b : Kn} : rin a b = true ↔ ∀ i, i < 64 → (tb a.v i && tb a.m i) = false ∧ (tb b.v i && tb b.m i) = false ∧ (tb a.m i && !tb b.m i) = false ∧ ((tb a.v i ^^ tb b.v i) && !tb b.m i) = false := by
  unfold rin
  rw [Bool.and_eq_true, Bool.and_eq_true, Bool.and_eq_true, kmay_iff, kmay_iff, tb_eq (andNot_bd _ _) zero_bd, tb_eq (andNot_bd _ _) zero_bd]
  constructor
  · rintro ⟨h1, h2, h3, h4⟩ i hi
    exact ⟨h1 i hi, h2 i hi, by have := h3 i hi; rwa [tb_andNot _ _ hi, tb_zero] at this, by have := h4 i hi; rwa [tb_andNot _ _ hi, tb_xor, tb_zero] at this⟩
  · intro h
    exact ⟨fun i hi => (h i hi).1, fun i hi => (h i hi).2.1, fun i hi => by rw [tb_andNot _ _ hi, tb_zero]; exact (h i hi).2.2.1, fun i hi => by rw [tb_andNot _ _ hi, tb_xor, tb_zero]; exact (h i hi).2.2.2⟩
theorem kin_rin {a b : Kn} (hb : b.wf) : kin a b = rin a b := by
  rw [Bool.eq_iff_iff, kin_iff hb, rin_iff]
  constructor
  · intro h i hi
    have := h i hi
    revert this
    cases tb a.v i <;> cases tb a.m i <;> cases tb b.v i <;> cases tb b.m i <;> simp
  · intro h i hi
    have := h i hi
    revert this
    cases tb a.v i <;> cases tb a.m i <;> cases tb b.v i <;> cases tb b.m i <;> simp
theorem kodds_iff (a b : Kn) : (kodds a b == 0) = true ↔ ∀ i, i < 64 → ((tb a.v i ^^ tb b.v i) && !(tb a.m i || tb b.m i)) = false := by
  unfold kodds
  rw [tb_eq (andNot_bd _ _) zero_bd]
  constructor
  · intro h i hi
    have := h i hi
    rwa [tb_andNot _ _ hi, tb_xor, tb_or, tb_zero] at this
  · intro h i hi
    rw [tb_andNot _ _ hi, tb_xor, tb_or, tb_zero]; exact h i hi
theorem kmeets_iff (a b : Kn) : kmeets a b = true ↔ ∀ i, i < 64 → (tb a.v i && tb a.m i) = false ∧ (tb b.v i && tb b.m i) = false ∧ ((tb a.v i ^^ tb b.v i) && !(tb a.m i || tb b.m i)) = false := by
  unfold kmeets
  rw [Bool.and_eq_true, Bool.and_eq_true, kmay_iff, kmay_iff, kodds_iff]
  exact ⟨fun h i hi => ⟨h.1 i hi, h.2.1 i hi, h.2.2 i hi⟩, fun h => ⟨fun i hi => (h i hi).1, fun i hi => (h i hi).2.1, fun i hi => (h i hi).2.2⟩⟩
theorem kmeet_rmeet (a b : Kn) : kmeet a b = rmeet a b := by
  unfold kmeet rmeet
  split
  · rename_i h
    rw [kmeets_iff] at h
    have : bits .andNot .u64 (bits .or .u64 a.v b.v) (bits .and .u64 a.m b.m) = bits .or .u64 a.v b.v := by
      apply tb_ext (andNot_bd _ _) (or_bd _ _)
      intro i hi
      have := h i hi
      rw [tb_andNot _ _ hi, tb_or, tb_and]
      revert this
      cases tb a.v i <;> cases tb a.m i <;> cases tb b.v i <;> cases tb b.m i <;> simp
    unfold kmask
    rw [this]
  · rfl
theorem kmay_mask (v m : Int) : kmay (kmask v m) = true := by
  rw [kmay_iff]
  intro i hi
  show (tb (bits .andNot .u64 v m) i && tb m i) = false
  rw [tb_andNot _ _ hi]
  cases tb v i <;> cases tb m i <;> rfl
theorem kmay_all : kmay kall = true := by
  rw [kmay_iff]
  intro i hi
  show (tb 0 i && _) = false
  rw [tb_zero]; rfl
theorem kmay_one (v : Int) : kmay (kone v) = true := by
  rw [kmay_iff]
  intro i hi
  show (_ && tb 0 i) = false
  rw [tb_zero, Bool.and_false]
theorem kmay_zero {a : Kn} (h : a.m = 0) : kmay a = true := by
  rw [kmay_iff]
  intro i hi
  rw [h, tb_zero, Bool.and_false]
theorem khas_all (x : Int) : khas kall x = true := by
  rw [khas_iff wf_kall]
  intro i hi
  show (tb 0 i && tb 18446744073709551615 i) = false ∧ (tb x i && !tb 18446744073709551615 i) = tb 0 i
  rw [tb_zero, tb_ones hi]
  simp
theorem khas_one {v : Int} (h : 0 ≤ v ∧ v ≤ 18446744073709551615) : khas (kone v) v = true := by
  rw [khas_iff (wf_kone h)]
  intro i hi
  show (tb v i && tb 0 i) = false ∧ (tb v i && !tb 0 i) = tb v i
  rw [tb_zero]; simp
theorem tb_cut {x : Int} (h0 : 0 ≤ x) (h1 : x ≤ 18446744073709551615) {w : Int} (hw : w = 32 ∨ w = 64) {i : Nat} (hi : i < 64) : tb (zcut x w) i = (decide ((i : Int) < w) && tb x i) := by
  rcases hw with rfl | rfl
  · rw [zcut_32]
    obtain ⟨n, rfl⟩ := Int.eq_ofNat_of_zero_le h0
    unfold tb
    rw [show ((n : Int) % 4294967296) = ((n % 2 ^ 32 : Nat) : Int) from by omega, BitVec.ofInt_natCast, BitVec.ofInt_natCast, BitVec.getLsbD_ofNat, BitVec.getLsbD_ofNat, Nat.testBit_mod_two_pow]
    have e : decide ((i : Int) < 32) = decide (i < 32) := by rw [Bool.eq_iff_iff]; simp; omega
    rw [e]
    cases decide (i < 64) <;> cases decide (i < 32) <;> simp
  · rw [zcut_64]
    simp [show (i : Int) < 64 from by omega]
theorem kcut_v {a : Kn} (h : kmay a = true) (w : Int) : kcut a w = ⟨zcut a.v w, zcut a.m w⟩ := by simp [kcut, h]
theorem kmay_cut {a : Kn} (ha : a.wf) {w : Int} (hw : w = 32 ∨ w = 64) : kmay (kcut a w) = true := by
  by_cases h : kmay a = true
  · rw [kcut_v h, kmay_iff]
    intro i hi
    have := (kmay_iff a).1 h i hi
    show (tb (zcut a.v w) i && tb (zcut a.m w) i) = false
    rw [tb_cut ha.1.1 ha.1.2 hw hi, tb_cut ha.2.1 ha.2.2 hw hi]
    revert this
    cases tb a.v i <;> cases tb a.m i <;> cases decide ((i : Int) < w) <;> simp
  · have : kcut a w = kall := by simp [kcut, h]
    rw [this]; exact kmay_all
theorem khas_may {a : Kn} {x : Int} (h : khas a x = true) : kmay a = true := by unfold khas at h; rw [Bool.and_eq_true] at h; exact h.1
theorem khas_cut {a : Kn} (ha : a.wf) {x : Int} (hx : 0 ≤ x ∧ x ≤ 18446744073709551615) (h : khas a x = true) {w : Int} (hw : w = 32 ∨ w = 64) : khas (kcut a w) (zcut x w) = true := by
  rw [khas_iff (wf_kcut ha w), kcut_v (khas_may h)]
  intro i hi
  have := (khas_iff ha x).1 h i hi
  show (tb (zcut a.v w) i && tb (zcut a.m w) i) = false ∧ (tb (zcut x w) i && !tb (zcut a.m w) i) = tb (zcut a.v w) i
  rw [tb_cut ha.1.1 ha.1.2 hw hi, tb_cut ha.2.1 ha.2.2 hw hi, tb_cut hx.1 hx.2 hw hi]
  revert this
  cases tb a.v i <;> cases tb a.m i <;> cases tb x i <;> cases decide ((i : Int) < w) <;> simp
end Go.Proofs.YtcfnglbcgkappaaGreat

/- Sums and differences of known bits hold the sums and differences of what they hold: by carries. No walk is in here. -/
set_option linter.unusedVariables false
set_option linter.unusedSimpArgs false
namespace Go.Proofs.YtcfnglbcgkappaaGreat
open Go.RowKit

theorem le_of_sub {a b : Nat} (h : ∀ j, a.testBit j = true → b.testBit j = true) : a ≤ b := by
  have : a &&& b = a := by
    apply Nat.eq_of_testBit_eq
    intro j
    rw [Nat.testBit_and]
    cases ha : a.testBit j
    · rfl
    · rw [h j ha]; rfl
  rw [← this]
  exact Nat.and_le_right
/-- The bits of x are among those of y. -/
def Sub64 (x y : BitVec 64) : Prop := ∀ i, x.getLsbD i = true → y.getLsbD i = true
theorem Sub64.mod {x y : BitVec 64} (h : Sub64 x y) (i : Nat) : x.toNat % 2 ^ i ≤ y.toNat % 2 ^ i := by
  apply le_of_sub
  intro j hj
  rw [Nat.testBit_mod_two_pow] at hj ⊢
  simp only [Bool.and_eq_true] at hj ⊢
  exact ⟨hj.1, h j hj.2⟩
theorem carry_mono {x x' y y' : BitVec 64} (hx : Sub64 x x') (hy : Sub64 y y') (i : Nat) (h : BitVec.carry i x y false = true) : BitVec.carry i x' y' false = true := by
  have h1 := hx.mod i
  have h2 := hy.mod i
  simp only [BitVec.carry, decide_eq_true_eq, Bool.toNat_false] at h ⊢
  omega
/-- What goes over from the bits below i in x - y. -/
def bor (i : Nat) (x y : BitVec 64) : Bool := decide (x.toNat % 2 ^ i < y.toNat % 2 ^ i)
theorem bor_mono {x x' y y' : BitVec 64} (hx : Sub64 x' x) (hy : Sub64 y y') (i : Nat) (h : bor i x y = true) : bor i x' y' = true := by
  have h1 := hx.mod i
  have h2 := hy.mod i
  simp only [bor, decide_eq_true_eq] at h ⊢
  omega
theorem getLsbD_sub' (x y : BitVec 64) {i : Nat} (hi : i < 64) : (x - y).getLsbD i = (x.getLsbD i ^^ (y.getLsbD i ^^ bor i x y)) := by
  have e : x = (x - y) + y := by rw [BitVec.sub_add_cancel]
  have h1 := congrArg (fun z => z.getLsbD i) e
  simp only [BitVec.getLsbD_add hi] at h1
  have hc : BitVec.carry i (x - y) y false = bor i x y := by
    have hp : 0 < 2 ^ i := Nat.two_pow_pos i
    have hd : (2 : Nat) ^ 64 = 2 ^ i * 2 ^ (64 - i) := by rw [← Nat.pow_add]; congr 1; omega
    have ht : (x - y).toNat % 2 ^ i = (x.toNat % 2 ^ i + (2 ^ i - y.toNat % 2 ^ i)) % 2 ^ i := by
      rw [BitVec.toNat_sub, hd, Nat.mod_mul_right_mod]
      have hy := y.isLt
      have hq := Nat.div_add_mod y.toNat (2 ^ i)
      have hq2 : y.toNat / 2 ^ i < 2 ^ (64 - i) := by
        rw [Nat.div_lt_iff_lt_mul hp, Nat.mul_comm, ← hd]; exact hy
      obtain ⟨k, hk⟩ : ∃ k, 2 ^ (64 - i) = y.toNat / 2 ^ i + 1 + k := ⟨2 ^ (64 - i) - (y.toNat / 2 ^ i + 1), by omega⟩
      have hlt : y.toNat % 2 ^ i < 2 ^ i := Nat.mod_lt _ hp
      have e2 : 2 ^ i * 2 ^ (64 - i) - y.toNat = (2 ^ i - y.toNat % 2 ^ i) + 2 ^ i * k := by
        rw [hk, Nat.mul_add, Nat.mul_add, Nat.mul_one]
        omega
      rw [e2]
      have hx := Nat.div_add_mod x.toNat (2 ^ i)
      rw [show 2 ^ i - y.toNat % 2 ^ i + 2 ^ i * k + x.toNat = (x.toNat % 2 ^ i + (2 ^ i - y.toNat % 2 ^ i)) + 2 ^ i * (k + x.toNat / 2 ^ i) from by rw [Nat.mul_add]; omega]
      rw [Nat.add_mul_mod_self_left]
    have hxl : x.toNat % 2 ^ i < 2 ^ i := Nat.mod_lt _ hp
    have hyl : y.toNat % 2 ^ i < 2 ^ i := Nat.mod_lt _ hp
    simp only [BitVec.carry, bor, ht, Bool.toNat_false]
    generalize 2 ^ i = d at *
    generalize x.toNat % d = r at *
    generalize y.toNat % d = s at *
    rw [decide_eq_decide]
    by_cases hrs : r < s
    · rw [Nat.mod_eq_of_lt (by omega)]; omega
    · rw [show r + (d - s) = (r - s) + d from by omega, Nat.add_mod_right, Nat.mod_eq_of_lt (by omega)]; omega
  rw [hc] at h1
  rw [h1]
  cases (x - y).getLsbD i <;> cases y.getLsbD i <;> cases bor i x y <;> rfl

/-- p is among what V, M tell. -/
def Among (V M p : BitVec 64) : Prop := ∀ i, i < 64 → (V.getLsbD i && M.getLsbD i) = false ∧ (p.getLsbD i && !M.getLsbD i) = V.getLsbD i
theorem Among.low {V M p : BitVec 64} (h : Among V M p) : Sub64 V p := by
  intro i hi
  have hl := BitVec.lt_of_getLsbD hi
  have := h i hl
  revert this
  rw [hi]
  cases M.getLsbD i <;> cases p.getLsbD i <;> simp
theorem Among.high {V M p : BitVec 64} (h : Among V M p) : Sub64 p (V ||| M) := by
  intro i hi
  have hl := BitVec.lt_of_getLsbD hi
  have := h i hl
  revert this
  rw [BitVec.getLsbD_or, hi]
  cases M.getLsbD i <;> cases V.getLsbD i <;> simp
theorem Among.at {V M p : BitVec 64} (h : Among V M p) {i : Nat} (hi : i < 64) (hm : M.getLsbD i = false) : p.getLsbD i = V.getLsbD i := by
  have := (h i hi).2
  rw [hm] at this
  simpa using this
theorem Among.or {V M p : BitVec 64} (h : Among V M p) : V + M = V ||| M := by
  apply BitVec.add_eq_or_of_and_eq_zero
  apply BitVec.eq_of_getLsbD_eq
  intro i hi
  rw [BitVec.getLsbD_and, (h i hi).1]; simp
theorem add_key {V M p W N q : BitVec 64} (h1 : Among V M p) (h2 : Among W N q) {i : Nat} (hi : i < 64) (hm : M.getLsbD i = false) (hn : N.getLsbD i = false) (he : (M + N + (V + W)).getLsbD i = (V + W).getLsbD i) :
    (p + q).getLsbD i = (V + W).getLsbD i := by
  have e : M + N + (V + W) = (V ||| M) + (W ||| N) := by rw [← h1.or, ← h2.or]; ac_rfl
  rw [e, BitVec.getLsbD_add hi, BitVec.getLsbD_add hi, BitVec.getLsbD_or, BitVec.getLsbD_or, hm, hn, Bool.or_false, Bool.or_false] at he
  have m1 := carry_mono h1.low h2.low i
  have m2 := carry_mono h1.high h2.high i
  rw [BitVec.getLsbD_add hi, BitVec.getLsbD_add hi, h1.at hi hm, h2.at hi hn]
  revert he m1 m2
  cases BitVec.carry i V W false <;> cases BitVec.carry i p q false <;> cases BitVec.carry i (V ||| M) (W ||| N) false <;> cases V.getLsbD i <;> cases W.getLsbD i <;> simp
theorem sub_key {V M p W N q : BitVec 64} (h1 : Among V M p) (h2 : Among W N q) {i : Nat} (hi : i < 64) (hm : M.getLsbD i = false) (hn : N.getLsbD i = false) (he : (V - W + M).getLsbD i = (V - W - N).getLsbD i) :
    (p - q).getLsbD i = (V - W).getLsbD i := by
  have e1 : V - W + M = (V ||| M) - W := by rw [← h1.or]; simp only [BitVec.sub_eq_add_neg]; ac_rfl
  have e2 : V - W - N = V - (W ||| N) := by rw [← h2.or]; simp only [BitVec.sub_eq_add_neg, BitVec.neg_add]; ac_rfl
  rw [e1, e2, getLsbD_sub' _ _ hi, getLsbD_sub' _ _ hi, BitVec.getLsbD_or, BitVec.getLsbD_or, hm, hn, Bool.or_false, Bool.or_false] at he
  have m1 := bor_mono (x := V ||| M) (x' := p) (y := W) (y' := q) h1.high h2.low i
  have m2 := bor_mono (x := p) (x' := V) (y := q) (y' := W ||| N) h1.low h2.high i
  have m3 := bor_mono (x := V ||| M) (x' := V) (y := W) (y' := W) (fun j hj => by rw [BitVec.getLsbD_or, hj]; rfl) (fun _ h => h) i
  have m4 := bor_mono (x := V) (x' := V) (y := W) (y' := W ||| N) (fun _ h => h) (fun j hj => by rw [BitVec.getLsbD_or, hj]; rfl) i
  rw [getLsbD_sub' _ _ hi, getLsbD_sub' _ _ hi, h1.at hi hm, h2.at hi hn]
  revert he m1 m2 m3 m4
  cases bor i V W <;> cases bor i p q <;> cases bor i (V ||| M) W <;> cases bor i V (W ||| N) <;> cases V.getLsbD i <;> cases W.getLsbD i <;> simp

theorem among_of {a : Kn} (ha : a.wf) {x : Int} (h : khas a x = true) : Among (BitVec.ofInt 64 a.v) (BitVec.ofInt 64 a.m) (BitVec.ofInt 64 x) := (khas_iff ha x).1 h
/-- Bit i of a sum that is known. -/
theorem kadd_at {a b : Kn} (ha : a.wf) (hb : b.wf) {p q : Int} (hp : khas a p = true) (hq : khas b q = true) {i : Nat} (hi : i < 64) (hm : tb (kadd a b).m i = false) :
    tb a.m i = false ∧ tb b.m i = false ∧ tb (p + q) i = tb (a.v + b.v) i := by
  have hm' : tb (bits .or .u64 (bits .or .u64 (bits .xor .u64 (IntKind.u64.wrap (a.v + b.v)) (IntKind.u64.wrap (IntKind.u64.wrap (a.m + b.m) + IntKind.u64.wrap (a.v + b.v)))) a.m) b.m) i = false := hm
  rw [tb_or, tb_or, tb_xor] at hm'
  simp only [Bool.or_eq_false_iff] at hm'
  obtain ⟨⟨h1, h2⟩, h3⟩ := hm'
  refine ⟨h2, h3, ?_⟩
  have := add_key (among_of ha hp) (among_of hb hq) hi h2 h3 (by
    unfold tb at h1
    rw [bv_wrap, bv_wrap, BitVec.ofInt_add, BitVec.ofInt_add, bv_wrap, bv_wrap, BitVec.ofInt_add, BitVec.ofInt_add] at h1
    revert h1
    cases (BitVec.ofInt 64 a.m + BitVec.ofInt 64 b.m + (BitVec.ofInt 64 a.v + BitVec.ofInt 64 b.v)).getLsbD i <;> cases (BitVec.ofInt 64 a.v + BitVec.ofInt 64 b.v).getLsbD i <;> simp)
  unfold tb
  rw [BitVec.ofInt_add, BitVec.ofInt_add]
  exact this
theorem bv_sub (x y : Int) : BitVec.ofInt 64 (x - y) = BitVec.ofInt 64 x - BitVec.ofInt 64 y := by
  rw [Int.sub_eq_add_neg, BitVec.ofInt_add, BitVec.ofInt_neg, BitVec.sub_eq_add_neg]
theorem ksub_at {a b : Kn} (ha : a.wf) (hb : b.wf) {p q : Int} (hp : khas a p = true) (hq : khas b q = true) {i : Nat} (hi : i < 64) (hm : tb (ksub a b).m i = false) :
    tb a.m i = false ∧ tb b.m i = false ∧ tb (p - q) i = tb (a.v - b.v) i := by
  have hm' : tb (bits .or .u64 (bits .or .u64 (bits .xor .u64 (IntKind.u64.wrap (IntKind.u64.wrap (a.v - b.v) + a.m)) (IntKind.u64.wrap (IntKind.u64.wrap (a.v - b.v) - b.m))) a.m) b.m) i = false := hm
  rw [tb_or, tb_or, tb_xor] at hm'
  simp only [Bool.or_eq_false_iff] at hm'
  obtain ⟨⟨h1, h2⟩, h3⟩ := hm'
  refine ⟨h2, h3, ?_⟩
  have := sub_key (among_of ha hp) (among_of hb hq) hi h2 h3 (by
    unfold tb at h1
    rw [bv_wrap, bv_wrap, BitVec.ofInt_add, bv_sub, bv_wrap, bv_sub] at h1
    revert h1
    cases (BitVec.ofInt 64 a.v - BitVec.ofInt 64 b.v + BitVec.ofInt 64 a.m).getLsbD i <;> cases (BitVec.ofInt 64 a.v - BitVec.ofInt 64 b.v - BitVec.ofInt 64 b.m).getLsbD i <;> simp)
  unfold tb
  rw [bv_sub, bv_sub]
  exact this
end Go.Proofs.YtcfnglbcgkappaaGreat

/- What Do tells holds each result. No walk is in here. -/
set_option linter.unusedVariables false
set_option linter.unusedSimpArgs false
namespace Go.Proofs.YtcfnglbcgkappaaGreat
open Go.RowKit

theorem khas_mask {v m r : Int} (hm : 0 ≤ m ∧ m ≤ 18446744073709551615) : khas (kmask v m) r = true ↔ ∀ i, i < 64 → tb m i = false → tb r i = tb v i := by
  rw [khas_iff (wf_kmask hm)]
  constructor
  · intro h i hi h0
    have h1 : (tb r i && !tb m i) = tb (bits .andNot .u64 v m) i := (h i hi).2
    rw [tb_andNot _ _ hi, h0] at h1
    simpa using h1
  · intro h i hi
    show (tb (bits .andNot .u64 v m) i && tb m i) = false ∧ (tb r i && !tb m i) = tb (bits .andNot .u64 v m) i
    rw [tb_andNot _ _ hi]
    have := h i hi
    revert this
    cases tb v i <;> cases tb m i <;> cases tb r i <;> simp
theorem bit_nat (n : Nat) {i : Nat} (hi : i < 64) : tb (n : Int) i = n.testBit i := by
  unfold tb
  rw [BitVec.ofInt_natCast, BitVec.getLsbD_ofNat]
  simp [hi]
/-- Which bit of a number stands at bit i behind a shift: none, or one. -/
def src (op w : Int) (s i : Nat) : Option Nat :=
  if op = 6 then (if (i : Int) < w ∧ s ≤ i then some (i - s) else none)
  else if op = 7 then (if ((i + s : Nat) : Int) < w then some (i + s) else none)
  else (if (i : Int) < w then some (if ((i + s : Nat) : Int) < w then i + s else (w - 1).toNat) else none)
theorem src6 (w : Int) (s i : Nat) : src 6 w s i = if (i : Int) < w ∧ s ≤ i then some (i - s) else none := by unfold src; rw [if_pos rfl]
theorem src7 (w : Int) (s i : Nat) : src 7 w s i = if ((i + s : Nat) : Int) < w then some (i + s) else none := by unfold src; rw [if_neg (by decide), if_pos rfl]
theorem src12 (w : Int) (s i : Nat) : src 12 w s i = if (i : Int) < w then some (if ((i + s : Nat) : Int) < w then i + s else (w - 1).toNat) else none := by unfold src; rw [if_neg (by decide), if_neg (by decide)]
def atSrc (x : Int) : Option Nat → Bool
  | some j => tb x j
  | none => false
theorem nat_cut (n : Nat) (hn : n < 2 ^ 64) (w : Int) (hw : w = 32 ∨ w = 64) : ∃ m : Nat, zcut (n : Int) w = (m : Int) ∧ m < 2 ^ 64 ∧ ∀ i, m.testBit i = (decide ((i : Int) < w) && n.testBit i) := by
  rcases hw with rfl | rfl
  · refine ⟨n % 2 ^ 32, by rw [zcut_32]; omega, by omega, fun i => ?_⟩
    rw [Nat.testBit_mod_two_pow]
    congr 1
    rw [decide_eq_decide]; omega
  · refine ⟨n, by rw [zcut_64], hn, fun i => ?_⟩
    by_cases hi : i < 64
    · simp [show (i : Int) < 64 from by omega]
    · rw [Nat.testBit_lt_two_pow (Nat.lt_of_lt_of_le hn (Nat.pow_le_pow_right (by omega) (by omega)))]; simp
theorem sel_lsh (x : Int) (h0 : 0 ≤ x) (h1 : x ≤ 18446744073709551615) (w : Int) (hw : w = 32 ∨ w = 64) (s : Nat) (hs : (s : Int) < w) {i : Nat} (hi : i < 64) :
    tb (zcut ((zcut x w * 2 ^ s) % 18446744073709551616) w) i = atSrc x (src 6 w s i) := by
  obtain ⟨n, rfl⟩ := Int.eq_ofNat_of_zero_le h0
  obtain ⟨m, hm, hml, hmb⟩ := nat_cut n (by omega) w hw
  have e : ((m : Int) * 2 ^ s) % 18446744073709551616 = (((m * 2 ^ s) % 2 ^ 64 : Nat) : Int) := by
    rw [show ((2 : Int) ^ s) = ((2 ^ s : Nat) : Int) from by simp, ← Int.natCast_mul]; omega
  rw [hm, e]
  obtain ⟨m2, hm2, _, hmb2⟩ := nat_cut ((m * 2 ^ s) % 2 ^ 64) (Nat.mod_lt _ (by decide)) w hw
  rw [hm2, bit_nat _ hi, hmb2, Nat.testBit_mod_two_pow, show m * 2 ^ s = m <<< s from (Nat.shiftLeft_eq m s).symm, Nat.testBit_shiftLeft, hmb]
  rw [src6]
  simp only [hi, decide_true, Bool.true_and]
  by_cases hl : (i : Int) < w
  · by_cases hsi : s ≤ i
    · have h2 : ((i - s : Nat) : Int) < w := by omega
      rw [if_pos ⟨hl, hsi⟩]
      simp only [hl, hsi, h2, decide_true, Bool.true_and, atSrc, ge_iff_le]
      rw [bit_nat _ (by omega)]
    · rw [if_neg (fun h => hsi h.2)]
      simp [hsi, atSrc]
  · rw [if_neg (fun h => hl h.1)]
    simp [hl, atSrc]
theorem sel_rsh (x : Int) (h0 : 0 ≤ x) (h1 : x ≤ 18446744073709551615) (w : Int) (hw : w = 32 ∨ w = 64) (s : Nat) (hs : (s : Int) < w) {i : Nat} (hi : i < 64) :
    tb (zcut (zcut x w / 2 ^ s) w) i = atSrc x (src 7 w s i) := by
  obtain ⟨n, rfl⟩ := Int.eq_ofNat_of_zero_le h0
  obtain ⟨m, hm, hml, hmb⟩ := nat_cut n (by omega) w hw
  have e : (m : Int) / 2 ^ s = ((m / 2 ^ s : Nat) : Int) := by
    rw [show ((2 : Int) ^ s) = ((2 ^ s : Nat) : Int) from by simp, ← Int.natCast_ediv]
  rw [hm, e]
  have hle : m / 2 ^ s ≤ m := Nat.div_le_self _ _
  obtain ⟨m2, hm2, _, hmb2⟩ := nat_cut (m / 2 ^ s) (by omega) w hw
  rw [hm2, bit_nat _ hi, hmb2, ← Nat.shiftRight_eq_div_pow, Nat.testBit_shiftRight, hmb]
  rw [src7]
  by_cases hl : ((i + s : Nat) : Int) < w
  · have h2 : (i : Int) < w := by omega
    have h3 : ((s + i : Nat) : Int) < w := by omega
    rw [if_pos hl]
    simp only [h2, h3, decide_true, Bool.true_and, atSrc]
    rw [bit_nat _ (by omega), Nat.add_comm]
  · have h3 : ¬ ((s + i : Nat) : Int) < w := by omega
    rw [if_neg hl]
    simp only [h3, decide_false, Bool.false_and, Bool.and_false, atSrc]
/-- The bits of a number made longer with its sign. -/
theorem sign_bits (x : Int) (h0 : 0 ≤ x) (h1 : x ≤ 18446744073709551615) (w : Int) (hw : w = 32 ∨ w = 64) : (0 ≤ zsign (zcut x w) w ∧ zsign (zcut x w) w ≤ 18446744073709551615) ∧ ∀ j, j < 64 → tb (zsign (zcut x w) w) j = tb x (if (j : Int) < w then j else (w - 1).toNat) := by
  rcases hw with rfl | rfl
  · obtain ⟨n, rfl⟩ := Int.eq_ofNat_of_zero_le h0
    have hz : zsign (zcut (n : Int) 32) 32 = (((if n % 2 ^ 32 < 2 ^ 31 then n % 2 ^ 32 else 2 ^ 32 * (2 ^ 32 - 1) + n % 2 ^ 32) : Nat) : Int) := by
      rw [zcut_32]
      unfold zsign zsgn
      rw [if_neg (by decide), if_neg (by decide), if_pos rfl]
      by_cases hc : n % 2 ^ 32 < 2 ^ 31
      · rw [if_pos hc, if_pos (by omega)]; omega
      · rw [if_neg hc, if_neg (by omega)]; omega
    refine ⟨by rw [hz]; split <;> omega, fun j hj => ?_⟩
    rw [hz, bit_nat _ hj]
    have hb : (n % 2 ^ 32).testBit 31 = decide (2 ^ 31 ≤ n % 2 ^ 32) := by
      rw [Nat.testBit_eq_decide_div_mod_eq, decide_eq_decide]; omega
    by_cases hc : n % 2 ^ 32 < 2 ^ 31
    · rw [if_pos hc, Nat.testBit_mod_two_pow]
      by_cases hl : (j : Int) < 32
      · rw [if_pos hl, bit_nat _ hj]; simp [show j < 32 from by omega]
      · rw [if_neg hl, bit_nat _ (by decide)]
        have h31 : n.testBit 31 = false := by
          have := Nat.testBit_mod_two_pow n 32 31
          rw [hb] at this
          simp at this
          have h2 : ¬ 2 ^ 31 ≤ n % 2 ^ 32 := by omega
          simpa [h2] using this.symm
        simp [show ¬ j < 32 from by omega, h31]
    · rw [if_neg hc, Nat.testBit_two_pow_mul_add _ (Nat.mod_lt _ (by decide))]
      by_cases hl : (j : Int) < 32
      · rw [if_pos hl, if_pos (by omega), Nat.testBit_mod_two_pow, bit_nat _ hj]; simp [show j < 32 from by omega]
      · rw [if_neg hl, if_neg (by omega), bit_nat _ (by decide), Nat.testBit_two_pow_sub_one]
        have h31 : n.testBit 31 = true := by
          have := Nat.testBit_mod_two_pow n 32 31
          rw [hb] at this
          have h2 : 2 ^ 31 ≤ n % 2 ^ 32 := by omega
          simpa [h2] using this.symm
        rw [show (32 - 1 : Int).toNat = 31 from rfl, h31]
        exact decide_eq_true (by omega)
  · rw [zcut_64]
    have hz : zsign x 64 = x := by simp [zsign]
    rw [hz]
    exact ⟨⟨h0, h1⟩, fun j hj => by rw [if_pos (by omega)]⟩
theorem sel_arsh (x : Int) (h0 : 0 ≤ x) (h1 : x ≤ 18446744073709551615) (w : Int) (hw : w = 32 ∨ w = 64) (s : Nat) (hs : (s : Int) < w) {i : Nat} (hi : i < 64) :
    tb (zcut ((wrap64 (zsign (zcut x w) w) / 2 ^ s) % 18446744073709551616) w) i = atSrc x (src 12 w s i) := by
  obtain ⟨⟨z0, z1⟩, hb⟩ := sign_bits x h0 h1 w hw
  have hwl : w ≤ 64 := by omega
  rw [tb_cut (by omega) (by omega) hw hi]
  have e1 : wrap64 (zsign (zcut x w) w) = (BitVec.ofInt 64 (zsign (zcut x w) w)).toInt := by
    rw [BitVec.toInt_ofInt, w_64, Int.bmod_def]
    simp only [Nat.reducePow]
    split <;> omega
  have e2 : tb ((wrap64 (zsign (zcut x w) w) / 2 ^ s) % 18446744073709551616) i = ((BitVec.ofInt 64 (zsign (zcut x w) w)).sshiftRight s).getLsbD i := by
    unfold tb
    have : BitVec.ofInt 64 ((wrap64 (zsign (zcut x w) w) / 2 ^ s) % 18446744073709551616) = (BitVec.ofInt 64 (zsign (zcut x w) w)).sshiftRight s := by
      rw [show ∀ z : Int, BitVec.ofInt 64 (z % 18446744073709551616) = BitVec.ofInt 64 z from fun z => by rw [← w_u64, bv_wrap], e1]
      rw [BitVec.sshiftRight, Int.shiftRight_eq_div_pow]
      simp
    rw [this]
  rw [e2, BitVec.getLsbD_sshiftRight]
  rw [src12]
  have hn : ¬ 64 ≤ i := by omega
  by_cases hl : (i : Int) < w
  · rw [if_pos hl]
    simp only [hl, hn, decide_true, decide_false, Bool.not_false, Bool.true_and, atSrc]
    by_cases h2 : ((i + s : Nat) : Int) < w
    · rw [if_pos h2, if_pos (by omega)]
      have := hb (s + i) (by omega)
      rw [if_pos (by omega)] at this
      rw [Nat.add_comm i s]
      exact this
    · rw [if_neg h2]
      by_cases h3 : s + i < 64
      · rw [if_pos h3]
        have := hb (s + i) h3
        rwa [if_neg (by omega)] at this
      · rw [if_neg h3, BitVec.msb_eq_getLsbD_last]
        have := hb 63 (by decide)
        rw [show 64 - 1 = 63 from rfl]
        rw [show (BitVec.ofInt 64 (zsign (zcut x w) w)).getLsbD 63 = tb (zsign (zcut x w) w) 63 from rfl, this]
        rcases hw with rfl | rfl
        · rfl
        · rfl
  · rw [if_neg hl]
    simp [hl, atSrc]

/-- The shifts as choices of bits. -/
theorem sel_do {op w : Int} (hop : op = 6 ∨ op = 7 ∨ op = 12) (hw : w = 32 ∨ w = 64) {x q : Int} (h0 : 0 ≤ x) (h1 : x ≤ 18446744073709551615) {s : Nat} (hs : (s : Int) < w) (hq : zcut q w % w = s) {i : Nat} (hi : i < 64) :
    tb (zdo op w x q) i = atSrc x (src op w s i) := by
  unfold zdo
  rw [hq]
  rcases hop with rfl | rfl | rfl
  · have e : zop 6 w (zcut x w) (zcut q w) s = (zcut x w * 2 ^ s) % 18446744073709551616 := by simp [zop]
    rw [e]; exact sel_lsh x h0 h1 w hw s hs hi
  · have e : zop 7 w (zcut x w) (zcut q w) s = zcut x w / 2 ^ s := by simp [zop]
    rw [e]; exact sel_rsh x h0 h1 w hw s hs hi
  · have e : zop 12 w (zcut x w) (zcut q w) s = (wrap64 (zsign (zcut x w) w) / 2 ^ s) % 18446744073709551616 := by simp [zop]
    rw [e]; exact sel_arsh x h0 h1 w hw s hs hi
theorem src_lt {op w : Int} (hw : w = 32 ∨ w = 64) {s i j : Nat} (h : src op w s i = some j) : j < 64 := by
  unfold src at h
  repeat' split at h
  all_goals (simp at h; try omega)
end Go.Proofs.YtcfnglbcgkappaaGreat

/- What Do tells holds each result, and less where less is known. No walk is in here. -/
set_option linter.unusedVariables false
set_option linter.unusedSimpArgs false
namespace Go.Proofs.YtcfnglbcgkappaaGreat
open Go.RowKit

theorem zdo_cut {op w : Int} (a b : Int) (hw : w = 32 ∨ w = 64) : zcut (zdo op w a b) w = zdo op w a b := zcut_zdo op w a b
theorem low_mask {w : Int} (hw : w = 32 ∨ w = 64) {x : Int} (h0 : 0 ≤ x) (h1 : x ≤ 18446744073709551615) : bits .and .u64 x (w - 1) = x % w := by
  rcases hw with rfl | rfl
  · exact and31 x h0 h1
  · exact and63 x h0 h1
theorem cut_low {w : Int} (hw : w = 32 ∨ w = 64) (x : Int) : zcut x w % w = x % w := by
  rcases hw with rfl | rfl
  · rw [zcut_32]; omega
  · rw [zcut_64]
/-- A number among known bits whose lowest bits are all known has these. -/
theorem low_known {b : Kn} (hb : b.wf) {q : Int} (hq : khas b q = true) (q0 : 0 ≤ q) (q1 : q ≤ 18446744073709551615) {w : Int} (hw : w = 32 ∨ w = 64) (hk : (bits .and .u64 b.m (w - 1) == 0) = true) :
    bits .and .u64 b.v (w - 1) = q % w := by
  rw [← low_mask hw q0 q1]
  apply tb_ext (and_bd _ _) (and_bd _ _)
  intro i hi
  have h1 := (khas_iff hb q).1 hq i hi
  have h2 := (tb_eq (and_bd _ _) zero_bd).1 hk i hi
  rw [tb_and, tb_zero] at h2
  rw [tb_and, tb_and]
  revert h1 h2
  cases tb b.v i <;> cases tb b.m i <;> cases tb q i <;> cases tb (w - 1) i <;> simp
theorem pos_mod {w : Int} (hw : w = 32 ∨ w = 64) (q : Int) : ∃ s : Nat, q % w = s ∧ (s : Int) < w := by
  have h : 0 ≤ q % w ∧ q % w < w := by rcases hw with rfl | rfl <;> omega
  exact ⟨(q % w).toNat, by omega, by omega⟩

theorem shift_has {op w : Int} (hw : w = 32 ∨ w = 64) {a b : Kn} (ha : a.wf) (hb : b.wf) {p q : Int} (p0 : 0 ≤ p ∧ p ≤ 18446744073709551615) (q0 : 0 ≤ q ∧ q ≤ 18446744073709551615) (hop : op = 6 ∨ op = 7 ∨ op = 12)
    (key : ∀ r : Int, (0 ≤ r ∧ r ≤ 18446744073709551615) → khas (kop op w a b) r = true → zcut r w = zdo op w p q → khas (kcut (kop op w a b) w) (zdo op w p q) = true) (hp : khas a p = true) (hq : khas b q = true) :
    khas (kcut (kop op w a b) w) (zdo op w p q) = true := by
  refine key (zdo op w p q) (zdo_bd _ _ _ _ p0.1 p0.2 q0.1 q0.2) ?_ (zdo_cut _ _ hw)
  by_cases hk : (bits .and .u64 b.m (w - 1) == 0) = true
  · have e : kop op w a b = kshift op w a b := by
      unfold kop
      rcases hop with rfl | rfl | rfl <;> simp only [show ¬ (6 : Int) = 0 from by decide, show ¬ (6 : Int) = 1 from by decide, show ¬ (6 : Int) = 4 from by decide, show ¬ (6 : Int) = 5 from by decide, show ¬ (7 : Int) = 0 from by decide, show ¬ (7 : Int) = 1 from by decide, show ¬ (7 : Int) = 4 from by decide, show ¬ (7 : Int) = 5 from by decide, show ¬ (12 : Int) = 0 from by decide, show ¬ (12 : Int) = 1 from by decide, show ¬ (12 : Int) = 4 from by decide, show ¬ (12 : Int) = 5 from by decide, if_false, if_pos hk, true_or, or_true, if_true]
    rw [e]
    unfold kshift
    have hs := and_bd b.v (w - 1)
    rw [khas_mask (zdo_bd _ _ _ _ ha.2.1 ha.2.2 hs.1 hs.2)]
    obtain ⟨s, hsq, hsw⟩ := pos_mod hw q
    have hl := low_known hb hq q0.1 q0.2 hw hk
    have hmod : zcut (bits .and .u64 b.v (w - 1)) w % w = s := by rw [cut_low hw, hl, hsq]; exact Int.emod_eq_of_lt (by omega) hsw
    have hmq : zcut q w % w = s := by rw [cut_low hw, hsq]
    intro i hi hm
    rw [sel_do hop hw ha.2.1 ha.2.2 hsw hmod hi] at hm
    rw [sel_do hop hw p0.1 p0.2 hsw hmq hi, sel_do hop hw ha.1.1 ha.1.2 hsw hmod hi]
    cases hsrc : src op w s i with
    | none => rfl
    | some j =>
      rw [hsrc] at hm
      have hj := src_lt hw hsrc
      have h1 := ((khas_iff ha p).1 hp j hj).2
      have h2 : tb a.m j = false := hm
      rw [h2] at h1
      have h3 : tb p j = tb a.v j := by simpa using h1
      exact h3
  · have e : kop op w a b = kall := by
      unfold kop
      rcases hop with rfl | rfl | rfl <;> simp only [show ¬ (6 : Int) = 0 from by decide, show ¬ (6 : Int) = 1 from by decide, show ¬ (6 : Int) = 4 from by decide, show ¬ (6 : Int) = 5 from by decide, show ¬ (7 : Int) = 0 from by decide, show ¬ (7 : Int) = 1 from by decide, show ¬ (7 : Int) = 4 from by decide, show ¬ (7 : Int) = 5 from by decide, show ¬ (12 : Int) = 0 from by decide, show ¬ (12 : Int) = 1 from by decide, show ¬ (12 : Int) = 4 from by decide, show ¬ (12 : Int) = 5 from by decide, if_false, if_neg hk, true_or, or_true, if_true]
    rw [e]; exact khas_all _
/-- Each operation's result, ahead of the last cut. -/
theorem kop_has {op w : Int} (h0 : 0 ≤ op) (h12 : op ≤ 12) (hw : w = 32 ∨ w = 64) {a b : Kn} (ha : a.wf) (hb : b.wf) {p q : Int} (hp : khas a p = true) (hq : khas b q = true)
    (p0 : 0 ≤ p ∧ p ≤ 18446744073709551615) (q0 : 0 ≤ q ∧ q ≤ 18446744073709551615) (pc : zcut p w = p) (qc : zcut q w = q) :
    khas (kcut (kop op w a b) w) (zdo op w p q) = true := by
  have hwf := wf_kop ha hb op w
  have key : ∀ r : Int, (0 ≤ r ∧ r ≤ 18446744073709551615) → khas (kop op w a b) r = true → zcut r w = zdo op w p q → khas (kcut (kop op w a b) w) (zdo op w p q) = true := fun r hr h e => by
    rw [← e]; exact khas_cut hwf hr h hw
  have hz : zdo op w p q = zcut (zop op w p q (q % w)) w := by unfold zdo; rw [pc, qc]
  rcases op_cases h0 h12 with rfl | rfl | rfl | rfl | rfl | rfl | rfl | rfl | rfl | rfl | rfl | rfl | rfl
  · -- add
    refine key ((p + q) % 18446744073709551616) (by omega) ?_ (by rw [hz]; simp [zop])
    have e : kop 0 w a b = kadd a b := by simp [kop]
    rw [e]
    unfold kadd
    rw [khas_mask (or_bd _ _)]
    intro i hi hm
    obtain ⟨_, _, h⟩ := kadd_at ha hb hp hq hi hm
    have e1 : tb ((p + q) % 18446744073709551616) i = tb (p + q) i := by unfold tb; rw [← w_u64, bv_wrap]
    have e2 : tb (IntKind.u64.wrap (a.v + b.v)) i = tb (a.v + b.v) i := by unfold tb; rw [bv_wrap]
    rw [e1, e2, h]
  · -- sub
    refine key ((p - q) % 18446744073709551616) (by omega) ?_ (by rw [hz]; simp [zop])
    have e : kop 1 w a b = ksub a b := by simp [kop]
    rw [e]
    unfold ksub
    rw [khas_mask (or_bd _ _)]
    intro i hi hm
    obtain ⟨_, _, h⟩ := ksub_at ha hb hp hq hi hm
    have e1 : tb ((p - q) % 18446744073709551616) i = tb (p - q) i := by unfold tb; rw [← w_u64, bv_wrap]
    have e2 : tb (IntKind.u64.wrap (a.v - b.v)) i = tb (a.v - b.v) i := by unfold tb; rw [bv_wrap]
    rw [e1, e2, h]
  · have e : kop 2 w a b = kall := by simp [kop]
    refine key (zdo 2 w p q) (zdo_bd _ _ _ _ p0.1 p0.2 q0.1 q0.2) (by rw [e]; exact khas_all _) (zdo_cut _ _ hw)
  · have e : kop 3 w a b = kall := by simp [kop]
    refine key (zdo 3 w p q) (zdo_bd _ _ _ _ p0.1 p0.2 q0.1 q0.2) (by rw [e]; exact khas_all _) (zdo_cut _ _ hw)
  · -- or
    have e : kop 4 w a b = kor a b := by simp [kop]
    refine key (bits .or .u64 p q) (or_bd _ _) ?_ (by rw [hz, u64_or _ _ p0.1 (by omega) q0.1 (by omega)]; simp [zop])
    rw [e, khas_iff ⟨or_bd _ _, andNot_bd _ _⟩]
    intro i hi
    have h1 := (khas_iff ha p).1 hp i hi
    have h2 := (khas_iff hb q).1 hq i hi
    show (tb (bits .or .u64 a.v b.v) i && tb (bits .andNot .u64 (bits .or .u64 a.m b.m) (bits .or .u64 a.v b.v)) i) = false ∧ (tb (bits .or .u64 p q) i && !tb (bits .andNot .u64 (bits .or .u64 a.m b.m) (bits .or .u64 a.v b.v)) i) = tb (bits .or .u64 a.v b.v) i
    rw [tb_andNot _ _ hi, tb_or, tb_or, tb_or]
    revert h1 h2
    cases tb a.v i <;> cases tb a.m i <;> cases tb b.v i <;> cases tb b.m i <;> cases tb p i <;> cases tb q i <;> simp
  · -- and
    have e : kop 5 w a b = kand a b := by simp [kop]
    refine key (bits .and .u64 p q) (and_bd _ _) ?_ (by rw [hz, u64_and _ _ p0.1 (by omega) q0.1 (by omega)]; simp [zop])
    rw [e, khas_iff ⟨and_bd _ _, andNot_bd _ _⟩]
    intro i hi
    have h1 := (khas_iff ha p).1 hp i hi
    have h2 := (khas_iff hb q).1 hq i hi
    show (tb (bits .and .u64 a.v b.v) i && tb (bits .andNot .u64 (bits .and .u64 (bits .or .u64 a.v a.m) (bits .or .u64 b.v b.m)) (bits .and .u64 a.v b.v)) i) = false ∧ (tb (bits .and .u64 p q) i && !tb (bits .andNot .u64 (bits .and .u64 (bits .or .u64 a.v a.m) (bits .or .u64 b.v b.m)) (bits .and .u64 a.v b.v)) i) = tb (bits .and .u64 a.v b.v) i
    rw [tb_andNot _ _ hi, tb_and, tb_and, tb_and, tb_or, tb_or]
    revert h1 h2
    cases tb a.v i <;> cases tb a.m i <;> cases tb b.v i <;> cases tb b.m i <;> cases tb p i <;> cases tb q i <;> simp
  · exact shift_has hw ha hb p0 q0 (.inl rfl) key hp hq
  · exact shift_has hw ha hb p0 q0 (.inr (.inl rfl)) key hp hq
  · -- neg
    have e : kop 8 w a b = ksub (kone 0) a := by simp [kop]
    refine key ((0 - p) % 18446744073709551616) (by omega) ?_ (by rw [hz]; simp [zop])
    rw [e]
    unfold ksub
    rw [khas_mask (or_bd _ _)]
    intro i hi hm
    obtain ⟨_, _, h⟩ := ksub_at (wf_kone zero_bd) ha (khas_one zero_bd) hp hi hm
    have e1 : tb ((0 - p) % 18446744073709551616) i = tb (0 - p) i := by unfold tb; rw [← w_u64, bv_wrap]
    have e2 : tb (IntKind.u64.wrap ((kone 0).v - a.v)) i = tb ((kone 0).v - a.v) i := by unfold tb; rw [bv_wrap]
    rw [e1, e2, h]
  · have e : kop 9 w a b = kall := by simp [kop]
    refine key (zdo 9 w p q) (zdo_bd _ _ _ _ p0.1 p0.2 q0.1 q0.2) (by rw [e]; exact khas_all _) (zdo_cut _ _ hw)
  · -- xor
    have e : kop 10 w a b = kxor a b := by simp [kop]
    refine key (bits .xor .u64 p q) (xor_bd _ _) ?_ (by rw [hz, u64_xor _ _ p0.1 (by omega) q0.1 (by omega)]; simp [zop])
    rw [e]
    unfold kxor
    rw [khas_mask (or_bd _ _)]
    intro i hi hm
    have h1 := (khas_iff ha p).1 hp i hi
    have h2 := (khas_iff hb q).1 hq i hi
    rw [tb_or] at hm
    rw [tb_xor, tb_xor]
    revert h1 h2 hm
    cases tb a.v i <;> cases tb a.m i <;> cases tb b.v i <;> cases tb b.m i <;> cases tb p i <;> cases tb q i <;> simp
  · have e : kop 11 w a b = b := by simp [kop]
    refine key q q0 (by rw [e]; exact hq) (by rw [hz]; simp [zop])
  · exact shift_has hw ha hb p0 q0 (.inr (.inr rfl)) key hp hq
theorem single_eq {a : Kn} (ha : a.wf) {p : Int} (hp : khas a p = true) (p0 : 0 ≤ p ∧ p ≤ 18446744073709551615) (hm : a.m = 0) : a.v = p := by
  apply tb_ext ha.1 p0
  intro i hi
  have h := ((khas_iff ha p).1 hp i hi).2
  rw [hm, tb_zero] at h
  simpa using h.symm
theorem kgood_of {op w : Int} {a b : Kn} (h : kgood op w a b = true) : kmay a = true ∧ kmay b = true ∧ 0 ≤ op ∧ op ≤ 12 ∧ (w = 32 ∨ w = 64) := by
  simp only [kgood, Bool.and_eq_true, decide_eq_true_eq] at h
  exact ⟨h.1, h.2.1, h.2.2.1, h.2.2.2.1, zlong_cases h.2.2.2.2⟩
theorem kgood_mk {op w : Int} {a b : Kn} (h1 : kmay a = true) (h2 : kmay b = true) (h3 : 0 ≤ op) (h4 : op ≤ 12) (h5 : w = 32 ∨ w = 64) : kgood op w a b = true := by
  have : zlong w = true := by rcases h5 with rfl | rfl <;> rfl
  simp [kgood, h1, h2, h3, h4, this]
/-- Do holds each result. -/
theorem kdo_has {op w : Int} (h0 : 0 ≤ op) (h12 : op ≤ 12) (hw : w = 32 ∨ w = 64) {a b : Kn} (ha : a.wf) (hb : b.wf) {p q : Int} (hp : khas a p = true) (hq : khas b q = true)
    (p0 : 0 ≤ p ∧ p ≤ 18446744073709551615) (q0 : 0 ≤ q ∧ q ≤ 18446744073709551615) : khas (kdo op w a b) (zdo op w p q) = true := by
  have hA := khas_cut ha p0 hp hw
  have hB := khas_cut hb q0 hq hw
  have hP := zcut_bd p w p0.1 p0.2
  have hQ := zcut_bd q w q0.1 q0.2
  have wA := wf_kcut ha w
  have wB := wf_kcut hb w
  rw [← zdo_zcut, kdo, if_pos (kgood_mk (khas_may hp) (khas_may hq) h0 h12 hw)]
  split
  · rename_i hm
    rw [or_zero wA.2.1 wA.2.2 wB.2.1 wB.2.2, Bool.and_eq_true, beq_iff_eq, beq_iff_eq] at hm
    rw [single_eq wA hA hP hm.1, single_eq wB hB hQ hm.2]
    exact khas_one (zdo_bd _ _ _ _ hP.1 hP.2 hQ.1 hQ.2)
  · exact kop_has h0 h12 hw wA wB hA hB hP hQ (zcut_zcut _ _) (zcut_zcut _ _)
theorem kmay_kop {op w : Int} {a b : Kn} (hb : kmay b = true) : kmay (kop op w a b) = true := by
  unfold kop
  repeat' split
  · exact kmay_mask _ _
  · exact kmay_mask _ _
  · rw [kmay_iff]
    intro i hi
    show (tb (bits .or .u64 a.v b.v) i && tb (bits .andNot .u64 (bits .or .u64 a.m b.m) (bits .or .u64 a.v b.v)) i) = false
    rw [tb_andNot _ _ hi]
    cases tb (bits .or .u64 a.v b.v) i <;> simp
  · rw [kmay_iff]
    intro i hi
    show (tb (bits .and .u64 a.v b.v) i && tb (bits .andNot .u64 _ (bits .and .u64 a.v b.v)) i) = false
    rw [tb_andNot _ _ hi]
    cases tb (bits .and .u64 a.v b.v) i <;> simp
  · exact kmay_mask _ _
  · exact kmay_all
  · exact kmay_mask _ _
  · exact kmay_mask _ _
  · exact hb
  · exact kmay_all
theorem kmay_kdo {op w : Int} {a b : Kn} (ha : a.wf) (hb : b.wf) : kmay (kdo op w a b) = true := by
  unfold kdo
  split
  · rename_i hg
    obtain ⟨h1, h2, h3, h4, hw⟩ := kgood_of hg
    split
    · exact kmay_one _
    · exact kmay_cut (wf_kop (wf_kcut ha w) (wf_kcut hb w) op w) hw
  · exact kmay_all
end Go.Proofs.YtcfnglbcgkappaaGreat

/- Joins, meets, what is within, common bits; where less is known no more is told. No walk is in here. -/
set_option linter.unusedVariables false
set_option linter.unusedSimpArgs false
namespace Go.Proofs.YtcfnglbcgkappaaGreat
open Go.RowKit

def ksome (a : Kn) (x : Int) : Int := bits .or .u64 a.v (bits .and .u64 x a.m)
theorem ksome_bd (a : Kn) (x : Int) : 0 ≤ ksome a x ∧ ksome a x ≤ 18446744073709551615 := or_bd _ _
theorem ksome_has {a : Kn} (ha : a.wf) (h : kmay a = true) (x : Int) : khas a (ksome a x) = true := by
  rw [khas_iff ha]
  intro i hi
  have := (kmay_iff a).1 h i hi
  unfold ksome
  rw [tb_or, tb_and]
  revert this
  cases tb a.v i <;> cases tb a.m i <;> cases tb x i <;> simp
theorem khas_may_eq {a : Kn} (h : kmay a = true) (z : Int) : khas a z = (bits .andNot .u64 z a.m == a.v) := by unfold khas; rw [h, Bool.true_and]
theorem kin_iff2 {a b : Kn} (hb : b.wf) : kin a b = true ↔ kmay a = true ∧ kmay b = true ∧ ∀ i, i < 64 → tb b.m i = false → tb a.m i = false ∧ tb a.v i = tb b.v i := by
  rw [kin_iff hb, kmay_iff, kmay_iff]
  constructor
  · intro h
    refine ⟨fun i hi => (h i hi).1, fun i hi => (h i hi).2.1, fun i hi hm => ?_⟩
    have := h i hi
    revert this hm
    cases tb a.v i <;> cases tb a.m i <;> cases tb b.v i <;> cases tb b.m i <;> simp
  · rintro ⟨h1, h2, h3⟩ i hi
    have a1 := h1 i hi
    have a2 := h2 i hi
    have a3 := h3 i hi
    revert a1 a2 a3
    cases tb a.v i <;> cases tb a.m i <;> cases tb b.v i <;> cases tb b.m i <;> simp
theorem khas_iff2 {a : Kn} (ha : a.wf) (x : Int) : khas a x = true ↔ kmay a = true ∧ ∀ i, i < 64 → tb a.m i = false → tb x i = tb a.v i := by
  rw [khas_iff ha, kmay_iff]
  constructor
  · intro h
    refine ⟨fun i hi => (h i hi).1, fun i hi hm => ?_⟩
    have := h i hi
    revert this hm
    cases tb a.v i <;> cases tb a.m i <;> cases tb x i <;> simp
  · rintro ⟨h1, h2⟩ i hi
    have a1 := h1 i hi
    have a2 := h2 i hi
    revert a1 a2
    cases tb a.v i <;> cases tb a.m i <;> cases tb x i <;> simp
theorem kin_has {a b : Kn} (ha : a.wf) (hb : b.wf) (h : kin a b = true) {z : Int} (hz : khas a z = true) : khas b z = true := by
  obtain ⟨h1, h2, h3⟩ := (kin_iff2 hb).1 h
  obtain ⟨_, h4⟩ := (khas_iff2 ha z).1 hz
  rw [khas_iff2 hb]
  exact ⟨h2, fun i hi hm => (h4 i hi (h3 i hi hm).1).trans (h3 i hi hm).2⟩
theorem kjoin_eq {a b : Kn} (h1 : kmay a = true) (h2 : kmay b = true) : kjoin a b = kmask a.v (bits .or .u64 (bits .or .u64 a.m b.m) (bits .xor .u64 a.v b.v)) := by simp [kjoin, h1, h2]
theorem kmay_join (a b : Kn) : kmay (kjoin a b) = true := by
  unfold kjoin; split
  · exact kmay_mask _ _
  · exact kmay_all
theorem kin_mask {a : Kn} {v m : Int} (hm : 0 ≤ m ∧ m ≤ 18446744073709551615) (h1 : kmay a = true) (h : ∀ i, i < 64 → tb m i = false → tb a.m i = false ∧ tb a.v i = tb v i) : kin a (kmask v m) = true := by
  rw [kin_iff2 (wf_kmask hm)]
  refine ⟨h1, kmay_mask _ _, fun i hi h0 => ?_⟩
  have h0' : tb m i = false := h0
  obtain ⟨g1, g2⟩ := h i hi h0'
  refine ⟨g1, ?_⟩
  show _ = tb (bits .andNot .u64 v m) i
  rw [tb_andNot _ _ hi, h0', g2]; simp
theorem kin_join1 {a b : Kn} (h1 : kmay a = true) (h2 : kmay b = true) : kin a (kjoin a b) = true := by
  rw [kjoin_eq h1 h2]
  refine kin_mask (or_bd _ _) h1 (fun i hi h => ?_)
  rw [tb_or, tb_or, tb_xor] at h
  revert h
  cases tb a.v i <;> cases tb a.m i <;> cases tb b.v i <;> cases tb b.m i <;> simp
theorem kin_join2 {a b : Kn} (h1 : kmay a = true) (h2 : kmay b = true) : kin b (kjoin a b) = true := by
  rw [kjoin_eq h1 h2]
  refine kin_mask (or_bd _ _) h2 (fun i hi h => ?_)
  rw [tb_or, tb_or, tb_xor] at h
  revert h
  cases tb a.v i <;> cases tb a.m i <;> cases tb b.v i <;> cases tb b.m i <;> simp
theorem kmeet_has {a b : Kn} (ha : a.wf) (hb : b.wf) (h : kmeets a b = true) (z : Int) : khas (kmeet a b) z = (khas a z && khas b z) := by
  have hm := (kmeets_iff a b).1 h
  rw [Bool.eq_iff_iff, Bool.and_eq_true, khas_iff ha, khas_iff hb]
  have e : kmeet a b = kmask (bits .or .u64 a.v b.v) (bits .and .u64 a.m b.m) := by simp [kmeet, h]
  rw [e, khas_mask (and_bd _ _)]
  constructor
  · intro g
    constructor
    · intro i hi
      have g1 := g i hi
      have g2 := hm i hi
      rw [tb_and, tb_or] at g1
      revert g1 g2
      cases tb a.v i <;> cases tb a.m i <;> cases tb b.v i <;> cases tb b.m i <;> cases tb z i <;> simp
    · intro i hi
      have g1 := g i hi
      have g2 := hm i hi
      rw [tb_and, tb_or] at g1
      revert g1 g2
      cases tb a.v i <;> cases tb a.m i <;> cases tb b.v i <;> cases tb b.m i <;> cases tb z i <;> simp
  · rintro ⟨g1, g2⟩ i hi h0
    have a1 := g1 i hi
    have a2 := g2 i hi
    rw [tb_and] at h0
    rw [tb_or]
    revert a1 a2 h0
    cases tb a.v i <;> cases tb a.m i <;> cases tb b.v i <;> cases tb b.m i <;> cases tb z i <;> simp
theorem kmeet_none {a b : Kn} (ha : a.wf) (hb : b.wf) (h : kmeets a b = false) (z : Int) : (khas a z && khas b z) = false := by
  cases hz : (khas a z && khas b z)
  · rfl
  · exfalso
    rw [Bool.and_eq_true] at hz
    have g1 := (khas_iff ha z).1 hz.1
    have g2 := (khas_iff hb z).1 hz.2
    have : kmeets a b = true := by
      rw [kmeets_iff]
      intro i hi
      have a1 := g1 i hi
      have a2 := g2 i hi
      revert a1 a2
      cases tb a.v i <;> cases tb a.m i <;> cases tb b.v i <;> cases tb b.m i <;> cases tb z i <;> simp
    rw [h] at this; cases this

theorem kcn_le (lo hi : Int) : ∀ (k n : Nat), n + k = 64 → cfrom lo hi k n ≤ 64 := by
  intro k
  induction k with
  | zero => intro n h; simp [cfrom]; omega
  | succ k ih =>
    intro n h
    unfold cfrom
    split
    · omega
    · exact ih (n + 1) (by omega)
theorem kcn_same (lo hi : Int) (h0 : 0 ≤ lo) (h1 : lo ≤ 18446744073709551615) (h2 : 0 ≤ hi) (h3 : hi ≤ 18446744073709551615) : ∀ (k n : Nat), n + k = 64 → lo / 2 ^ cfrom lo hi k n = hi / 2 ^ cfrom lo hi k n := by
  intro k
  induction k with
  | zero =>
    intro n h
    obtain rfl : n = 64 := by omega
    simp only [cfrom]
    omega
  | succ k ih =>
    intro n h
    unfold cfrom
    split
    · assumption
    · exact ih (n + 1) (by omega)
theorem kcommon_has {lo hi z : Int} (h0 : 0 ≤ lo) (h1 : lo ≤ 18446744073709551615) (h2 : 0 ≤ hi) (h3 : hi ≤ 18446744073709551615) (hz0 : lo ≤ z) (hz1 : z ≤ hi) : khas (kcommon lo hi) z = true := by
  have hle : kcn lo hi ≤ 64 := kcn_le lo hi 64 0 rfl
  have hsame : lo / 2 ^ kcn lo hi = hi / 2 ^ kcn lo hi := kcn_same lo hi h0 h1 h2 h3 64 0 rfl
  have hz : z / 2 ^ kcn lo hi = lo / 2 ^ kcn lo hi := by
    have hp : (0 : Int) < 2 ^ kcn lo hi := pow_nn _
    have g1 := Int.ediv_le_ediv hp hz0
    have g2 := Int.ediv_le_ediv hp hz1
    omega
  have hd := (diff_iff z lo _ hle (by omega) (by omega) h0 h1).2 hz
  have hpb := pow_bd0 hle
  have hcv : kcommon lo hi = kmask lo (2 ^ kcn lo hi - 1) := by simp [kcommon, show ¬ hi < lo from by omega]
  rw [hcv, khas_mask (by generalize (2 : Int) ^ kcn lo hi = x at *; omega)]
  intro i hi' hm
  have h5 := (tb_eq (andNot_bd _ _) zero_bd).1 (beq_iff_eq.2 hd) i hi'
  rw [tb_andNot _ _ hi', tb_xor, tb_zero, hm] at h5
  revert h5
  cases tb z i <;> cases tb lo i <;> simp

/-- Where less is known, no more is told. -/
theorem kin_cut {a x : Kn} (ha : a.wf) (hx : x.wf) (h : kin a x = true) {w : Int} (hw : w = 32 ∨ w = 64) : kin (kcut a w) (kcut x w) = true := by
  obtain ⟨h1, h2, h3⟩ := (kin_iff2 hx).1 h
  rw [kin_iff2 (wf_kcut hx w)]
  refine ⟨kmay_cut ha hw, kmay_cut hx hw, fun i hi => ?_⟩
  rw [kcut_v h1, kcut_v h2]
  show tb (zcut x.m w) i = false → tb (zcut a.m w) i = false ∧ tb (zcut a.v w) i = tb (zcut x.v w) i
  rw [tb_cut hx.2.1 hx.2.2 hw hi, tb_cut ha.2.1 ha.2.2 hw hi, tb_cut ha.1.1 ha.1.2 hw hi, tb_cut hx.1.1 hx.1.2 hw hi]
  have g := h3 i hi
  intro hm
  cases hd : decide ((i : Int) < w)
  · simp
  · rw [hd] at hm
    obtain ⟨g1, g2⟩ := g (by simpa using hm)
    simp [g1, g2]
theorem kin_refl {a : Kn} (ha : a.wf) (h : kmay a = true) : kin a a = true := by
  rw [kin_iff2 ha]
  exact ⟨h, h, fun i _ hm => ⟨hm, rfl⟩⟩
theorem kin_all {a : Kn} (h : kmay a = true) : kin a kall = true := by
  rw [kin_iff2 wf_kall]
  refine ⟨h, kmay_all, fun i hi hm => ?_⟩
  have : tb 18446744073709551615 i = false := hm
  rw [tb_ones hi] at this; cases this
theorem kin_v {a x : Kn} (ha : a.wf) (hx : x.wf) (h : kin a x = true) : khas x a.v = true := by
  obtain ⟨h1, h2, h3⟩ := (kin_iff2 hx).1 h
  rw [khas_iff2 hx]
  exact ⟨h2, fun i hi hm => (h3 i hi hm).2⟩
theorem kin_vm {a x : Kn} (ha : a.wf) (hx : x.wf) (h : kin a x = true) : khas x (bits .or .u64 a.v a.m) = true := by
  obtain ⟨h1, h2, h3⟩ := (kin_iff2 hx).1 h
  rw [khas_iff2 hx]
  refine ⟨h2, fun i hi hm => ?_⟩
  obtain ⟨g1, g2⟩ := h3 i hi hm
  rw [tb_or, g1, g2, Bool.or_false]
theorem bv_or_eq {a : Kn} (h : kmay a = true) : BitVec.ofInt 64 a.v + BitVec.ofInt 64 a.m = BitVec.ofInt 64 (bits .or .u64 a.v a.m) := by
  rw [bv_or]
  apply BitVec.add_eq_or_of_and_eq_zero
  apply BitVec.eq_of_getLsbD_eq
  intro i hi
  rw [BitVec.getLsbD_and]
  have := (kmay_iff a).1 h i hi
  unfold tb at this
  rw [this]; simp
end Go.Proofs.YtcfnglbcgkappaaGreat
