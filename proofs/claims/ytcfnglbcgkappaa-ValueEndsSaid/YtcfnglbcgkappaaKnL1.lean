/- Plain laws of known bits, bit by bit. No walk is in here. -/
import Derived.Test.YtcfnglbcgkappaaKnQ
set_option linter.unusedVariables false
set_option linter.unusedSimpArgs false
namespace Go.Proofs.Ytcfnglbcgkappaa
open Go.RowKit

/-- Bit i of a 64-bit number. -/
def tb (x : Int) (i : Nat) : Bool := (BitVec.ofInt 64 x).getLsbD i
theorem bv_toNat {x : Int} (h0 : 0 ≤ x) (h1 : x ≤ 18446744073709551615) : ((BitVec.ofInt 64 x).toNat : Int) = x := by
  rw [BitVec.toNat_ofInt]; omega
theorem bv_inj {x y : Int} (h0 : 0 ≤ x) (h1 : x ≤ 18446744073709551615) (h2 : 0 ≤ y) (h3 : y ≤ 18446744073709551615) (h : BitVec.ofInt 64 x = BitVec.ofInt 64 y) : x = y := by
  rw [← bv_toNat h0 h1, ← bv_toNat h2 h3, h]
theorem tb_ext {x y : Int} (hx : 0 ≤ x ∧ x ≤ 18446744073709551615) (hy : 0 ≤ y ∧ y ≤ 18446744073709551615) (h : ∀ i, i < 64 → tb x i = tb y i) : x = y :=
  bv_inj hx.1 hx.2 hy.1 hy.2 (BitVec.eq_of_getLsbD_eq fun i hi => h i hi)
theorem bv_wrap (x : Int) : BitVec.ofInt 64 (IntKind.u64.wrap x) = BitVec.ofInt 64 x := by
  apply BitVec.eq_of_toNat_eq
  rw [BitVec.toNat_ofInt, BitVec.toNat_ofInt, w_u64]
  omega
theorem bv_nat (x : BitVec 64) : BitVec.ofInt 64 (x.toNat : Int) = x := by simp
theorem bv_and (x y : Int) : BitVec.ofInt 64 (bits .and .u64 x y) = BitVec.ofInt 64 x &&& BitVec.ofInt 64 y := (bv_wrap _).trans (bv_nat _)
theorem bv_or (x y : Int) : BitVec.ofInt 64 (bits .or .u64 x y) = BitVec.ofInt 64 x ||| BitVec.ofInt 64 y := (bv_wrap _).trans (bv_nat _)
theorem bv_xor (x y : Int) : BitVec.ofInt 64 (bits .xor .u64 x y) = BitVec.ofInt 64 x ^^^ BitVec.ofInt 64 y := (bv_wrap _).trans (bv_nat _)
theorem bv_andNot (x y : Int) : BitVec.ofInt 64 (bits .andNot .u64 x y) = BitVec.ofInt 64 x &&& ~~~ BitVec.ofInt 64 y := (bv_wrap _).trans (bv_nat _)
theorem tb_and (x y : Int) (i : Nat) : tb (bits .and .u64 x y) i = (tb x i && tb y i) := by unfold tb; rw [bv_and, BitVec.getLsbD_and]
theorem tb_or (x y : Int) (i : Nat) : tb (bits .or .u64 x y) i = (tb x i || tb y i) := by unfold tb; rw [bv_or, BitVec.getLsbD_or]
theorem tb_xor (x y : Int) (i : Nat) : tb (bits .xor .u64 x y) i = (tb x i ^^ tb y i) := by unfold tb; rw [bv_xor, BitVec.getLsbD_xor]
theorem tb_andNot (x y : Int) {i : Nat} (hi : i < 64) : tb (bits .andNot .u64 x y) i = (tb x i && !tb y i) := by unfold tb; rw [bv_andNot, BitVec.getLsbD_and, BitVec.getLsbD_not]; simp [hi]
theorem tb_zero (i : Nat) : tb 0 i = false := by unfold tb; simp
theorem tb_ones {i : Nat} (hi : i < 64) : tb 18446744073709551615 i = true := by
  unfold tb
  rw [show BitVec.ofInt 64 18446744073709551615 = BitVec.allOnes 64 from by decide, BitVec.getLsbD_allOnes]
  exact decide_eq_true hi
theorem tb_eq {x y : Int} (hx : 0 ≤ x ∧ x ≤ 18446744073709551615) (hy : 0 ≤ y ∧ y ≤ 18446744073709551615) : (x == y) = true ↔ ∀ i, i < 64 → tb x i = tb y i := by
  rw [beq_iff_eq]
  exact ⟨fun h i _ => by rw [h], tb_ext hx hy⟩
theorem zero_bd : (0 : Int) ≤ 0 ∧ (0 : Int) ≤ 18446744073709551615 := by omega

theorem kmay_iff (a : Kn) : kmay a = true ↔ ∀ i, i < 64 → (tb a.v i && tb a.m i) = false := by
  unfold kmay
  rw [tb_eq (and_bd _ _) zero_bd]
  simp only [tb_and, tb_zero]
theorem khas_iff {a : Kn} (ha : a.wf) (x : Int) : khas a x = true ↔ ∀ i, i < 64 → (tb a.v i && tb a.m i) = false ∧ (tb x i && !tb a.m i) = tb a.v i := by
  unfold khas
  rw [Bool.and_eq_true, kmay_iff, tb_eq (andNot_bd _ _) ha.1]
  constructor
  · rintro ⟨h1, h2⟩ i hi
    exact ⟨h1 i hi, by have := h2 i hi; rwa [tb_andNot _ _ hi] at this⟩
  · intro h
    exact ⟨fun i hi => (h i hi).1, fun i hi => by rw [tb_andNot _ _ hi]; exact (h i hi).2⟩
theorem kin_iff {a b : Kn} (hb : b.wf) : kin a b = true ↔ ∀ i, i < 64 → (tb a.v i && tb a.m i) = false ∧ (tb b.v i && tb b.m i) = false ∧ (tb a.m i || tb b.m i) = tb b.m i ∧ (tb a.v i && !tb b.m i) = tb b.v i := by
  unfold kin
  rw [Bool.and_eq_true, Bool.and_eq_true, Bool.and_eq_true, kmay_iff, kmay_iff, tb_eq (or_bd _ _) hb.2, tb_eq (andNot_bd _ _) hb.1]
  constructor
  · rintro ⟨h1, h2, h3, h4⟩ i hi
    exact ⟨h1 i hi, h2 i hi, by have := h3 i hi; rwa [tb_or] at this, by have := h4 i hi; rwa [tb_andNot _ _ hi] at this⟩
  · intro h
    exact ⟨fun i hi => (h i hi).1, fun i hi => (h i hi).2.1, fun i hi => by rw [tb_or]; exact (h i hi).2.2.1, fun i hi => by rw [tb_andNot _ _ hi]; exact (h i hi).2.2.2⟩
theorem rin_iff {a b : Kn} : rin a b = true ↔ ∀ i, i < 64 → (tb a.v i && tb a.m i) = false ∧ (tb b.v i && tb b.m i) = false ∧ (tb a.m i && !tb b.m i) = false ∧ ((tb a.v i ^^ tb b.v i) && !tb b.m i) = false := by
  unfold rin
  rw [Bool.and_eq_true, Bool.and_eq_true, Bool.and_eq_true, kmay_iff, kmay_iff, tb_eq (andNot_bd _ _) zero_bd, tb_eq (andNot_bd _ _) zero_bd]
  constructor
  · rintro ⟨h1, h2, h3, h4⟩ i hi
    exact ⟨h1 i hi, h2 i hi, by have := h3 i hi; rwa [tb_andNot _ _ hi, tb_zero] at this, by have := h4 i hi; rwa [tb_andNot _ _ hi, tb_xor, tb_zero] at this⟩
  · intro h
    exact ⟨fun i hi => (h i hi).1, fun i hi => (h i hi).2.1, fun i hi => by rw [tb_andNot _ _ hi, tb_zero]; exact (h i hi).2.2.1, fun i hi => by rw [tb_andNot _ _ hi, tb_xor, tb_zero]; exact (h i hi).2.2.2⟩
theorem kin_rin {a b : Kn} (hb : b.wf) : kin a b = rin a b := by
  rw [Bool.eq_iff_iff, kin_iff hb, rin_iff]
  constructor
  · intro h i hi
    have := h i hi
    revert this
    cases tb a.v i <;> cases tb a.m i <;> cases tb b.v i <;> cases tb b.m i <;> simp
  · intro h i hi
    have := h i hi
    revert this
    cases tb a.v i <;> cases tb a.m i <;> cases tb b.v i <;> cases tb b.m i <;> simp
theorem kodds_iff (a b : Kn) : (kodds a b == 0) = true ↔ ∀ i, i < 64 → ((tb a.v i ^^ tb b.v i) && !(tb a.m i || tb b.m i)) = false := by
  unfold kodds
  rw [tb_eq (andNot_bd _ _) zero_bd]
  constructor
  · intro h i hi
    have := h i hi
    rwa [tb_andNot _ _ hi, tb_xor, tb_or, tb_zero] at this
  · intro h i hi
    rw [tb_andNot _ _ hi, tb_xor, tb_or, tb_zero]; exact h i hi
theorem kmeets_iff (a b : Kn) : kmeets a b = true ↔ ∀ i, i < 64 → (tb a.v i && tb a.m i) = false ∧ (tb b.v i && tb b.m i) = false ∧ ((tb a.v i ^^ tb b.v i) && !(tb a.m i || tb b.m i)) = false := by
  unfold kmeets
  rw [Bool.and_eq_true, Bool.and_eq_true, kmay_iff, kmay_iff, kodds_iff]
  exact ⟨fun h i hi => ⟨h.1 i hi, h.2.1 i hi, h.2.2 i hi⟩, fun h => ⟨fun i hi => (h i hi).1, fun i hi => (h i hi).2.1, fun i hi => (h i hi).2.2⟩⟩
theorem kmeet_rmeet (a b : Kn) : kmeet a b = rmeet a b := by
  unfold kmeet rmeet
  split
  · rename_i h
    rw [kmeets_iff] at h
    have : bits .andNot .u64 (bits .or .u64 a.v b.v) (bits .and .u64 a.m b.m) = bits .or .u64 a.v b.v := by
      apply tb_ext (andNot_bd _ _) (or_bd _ _)
      intro i hi
      have := h i hi
      rw [tb_andNot _ _ hi, tb_or, tb_and]
      revert this
      cases tb a.v i <;> cases tb a.m i <;> cases tb b.v i <;> cases tb b.m i <;> simp
    unfold kmask
    rw [this]
  · rfl
theorem kmay_mask (v m : Int) : kmay (kmask v m) = true := by
  rw [kmay_iff]
  intro i hi
  show (tb (bits .andNot .u64 v m) i && tb m i) = false
  rw [tb_andNot _ _ hi]
  cases tb v i <;> cases tb m i <;> rfl
theorem kmay_all : kmay kall = true := by
  rw [kmay_iff]
  intro i hi
  show (tb 0 i && _) = false
  rw [tb_zero]; rfl
theorem kmay_one (v : Int) : kmay (kone v) = true := by
  rw [kmay_iff]
  intro i hi
  show (_ && tb 0 i) = false
  rw [tb_zero, Bool.and_false]
theorem kmay_zero {a : Kn} (h : a.m = 0) : kmay a = true := by
  rw [kmay_iff]
  intro i hi
  rw [h, tb_zero, Bool.and_false]
theorem khas_all (x : Int) : khas kall x = true := by
  rw [khas_iff wf_kall]
  intro i hi
  show (tb 0 i && tb 18446744073709551615 i) = false ∧ (tb x i && !tb 18446744073709551615 i) = tb 0 i
  rw [tb_zero, tb_ones hi]
  simp
theorem khas_one {v : Int} (h : 0 ≤ v ∧ v ≤ 18446744073709551615) : khas (kone v) v = true := by
  rw [khas_iff (wf_kone h)]
  intro i hi
  show (tb v i && tb 0 i) = false ∧ (tb v i && !tb 0 i) = tb v i
  rw [tb_zero]; simp
theorem tb_cut {x : Int} (h0 : 0 ≤ x) (h1 : x ≤ 18446744073709551615) {w : Int} (hw : w = 32 ∨ w = 64) {i : Nat} (hi : i < 64) : tb (zcut x w) i = (decide ((i : Int) < w) && tb x i) := by
  rcases hw with rfl | rfl
  · rw [zcut_32]
    obtain ⟨n, rfl⟩ := Int.eq_ofNat_of_zero_le h0
    unfold tb
    rw [show ((n : Int) % 4294967296) = ((n % 2 ^ 32 : Nat) : Int) from by omega, BitVec.ofInt_natCast, BitVec.ofInt_natCast, BitVec.getLsbD_ofNat, BitVec.getLsbD_ofNat, Nat.testBit_mod_two_pow]
    have e : decide ((i : Int) < 32) = decide (i < 32) := by rw [Bool.eq_iff_iff]; simp; omega
    rw [e]
    cases decide (i < 64) <;> cases decide (i < 32) <;> simp
  · rw [zcut_64]
    simp [show (i : Int) < 64 from by omega]
theorem kcut_v {a : Kn} (h : kmay a = true) (w : Int) : kcut a w = ⟨zcut a.v w, zcut a.m w⟩ := by simp [kcut, h]
theorem kmay_cut {a : Kn} (ha : a.wf) {w : Int} (hw : w = 32 ∨ w = 64) : kmay (kcut a w) = true := by
  by_cases h : kmay a = true
  · rw [kcut_v h, kmay_iff]
    intro i hi
    have := (kmay_iff a).1 h i hi
    show (tb (zcut a.v w) i && tb (zcut a.m w) i) = false
    rw [tb_cut ha.1.1 ha.1.2 hw hi, tb_cut ha.2.1 ha.2.2 hw hi]
    revert this
    cases tb a.v i <;> cases tb a.m i <;> cases decide ((i : Int) < w) <;> simp
  · have : kcut a w = kall := by simp [kcut, h]
    rw [this]; exact kmay_all
theorem khas_may {a : Kn} {x : Int} (h : khas a x = true) : kmay a = true := by unfold khas at h; rw [Bool.and_eq_true] at h; exact h.1
theorem khas_cut {a : Kn} (ha : a.wf) {x : Int} (hx : 0 ≤ x ∧ x ≤ 18446744073709551615) (h : khas a x = true) {w : Int} (hw : w = 32 ∨ w = 64) : khas (kcut a w) (zcut x w) = true := by
  rw [khas_iff (wf_kcut ha w), kcut_v (khas_may h)]
  intro i hi
  have := (khas_iff ha x).1 h i hi
  show (tb (zcut a.v w) i && tb (zcut a.m w) i) = false ∧ (tb (zcut x w) i && !tb (zcut a.m w) i) = tb (zcut a.v w) i
  rw [tb_cut ha.1.1 ha.1.2 hw hi, tb_cut ha.2.1 ha.2.2 hw hi, tb_cut hx.1 hx.2 hw hi]
  revert this
  cases tb a.v i <;> cases tb a.m i <;> cases tb x i <;> cases decide ((i : Int) < w) <;> simp
end Go.Proofs.Ytcfnglbcgkappaa
