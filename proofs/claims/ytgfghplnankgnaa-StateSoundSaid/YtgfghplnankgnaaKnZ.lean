/- Texts BdX, BitsPm, BitsHo, BdP, KnL1, KnL2, KnL3, KnL4, KnL5, Vl, Vm, KnX in one. -/
import Derived.Test.YtgfghplnankgnaaKxZ
import Derived.Test.YtgfghplnankgnaaBdZ
import Derived.Deep.RegionHeld3
import Derived.Deep.RegionWith
import Derived.Deep.DeepCutAuto
import Derived.Deep.CutBlock
import Derived.Test.YtgfghplnankgnaaKnQ
import Derived.Test.YtgfghplnankgnaaVk
import Derived.Test.YtgfghplnankgnaaXbZ
/- What Given comes to; contracts with letters. -/
set_option linter.unusedVariables false
set_option linter.unusedSimpArgs false
namespace Go.Proofs.Ytgfghplnankgnaa
open Go.RowKit Go.ChangeShapes Go.WideShapes

end Go.Proofs.Ytgfghplnankgnaa


/- Plain laws of shifts: what the law BitsParts needs of zdo. -/
set_option linter.unusedVariables false
set_option linter.unusedSimpArgs false
namespace Go.Proofs.Ytgfghplnankgnaa
open Go.RowKit

/-- The signed number of a word. -/
def zs (v w : Int) : Int := wrap64 (zsign (zcut v w) w)
end Go.Proofs.Ytgfghplnankgnaa


/- The walks of order, Holds and Not, and of the reference's Holds and Not. -/
set_option linter.unusedVariables false
set_option linter.unusedSimpArgs false
namespace Go.Proofs.Ytgfghplnankgnaa
open Go.RowKit

end Go.Proofs.Ytgfghplnankgnaa


/- Plain laws for BoundsGiven. No walk is in here. -/
set_option linter.unusedVariables false
set_option linter.unusedSimpArgs false
namespace Go.Proofs.Ytgfghplnankgnaa
open Go.RowKit

end Go.Proofs.Ytgfghplnankgnaa


/- Plain laws of known bits, bit by bit. No walk is in here. -/
set_option linter.unusedVariables false
set_option linter.unusedSimpArgs false
namespace Go.Proofs.Ytgfghplnankgnaa
open Go.RowKit

/-- Bit i of a 64-bit number. -/
def tb (x : Int) (i : Nat) : Bool := (BitVec.ofInt 64 x).getLsbD i
theorem bv_toNat {x : Int} (h0 : 0 ≤ x) (h1 : x ≤ 18446744073709551615) : ((BitVec.ofInt 64 x).toNat : Int) = x := by
  rw [BitVec.toNat_ofInt]; omega
theorem bv_inj {x y : Int} (h0 : 0 ≤ x) (h1 : x ≤ 18446744073709551615) (h2 : 0 ≤ y) (h3 : y ≤ 18446744073709551615) (h : BitVec.ofInt 64 x = BitVec.ofInt 64 y) : x = y := by
  rw [← bv_toNat h0 h1, ← bv_toNat h2 h3, h]
theorem tb_ext {x y : Int} (hx : 0 ≤ x ∧ x ≤ 18446744073709551615) (hy : 0 ≤ y ∧ y ≤ 18446744073709551615) (h : ∀ i, i < 64 → tb x i = tb y i) : x = y :=
  bv_inj hx.1 hx.2 hy.1 hy.2 (BitVec.eq_of_getLsbD_eq fun i hi => h i hi)
theorem bv_wrap (x : Int) : BitVec.ofInt 64 (IntKind.u64.wrap x) = BitVec.ofInt 64 x := by
  apply BitVec.eq_of_toNat_eq
  rw [BitVec.toNat_ofInt, BitVec.toNat_ofInt, w_u64]
  omega
theorem bv_nat (x : BitVec 64) : BitVec.ofInt 64 (x.toNat : Int) = x := by simp
theorem bv_and (x y : Int) : BitVec.ofInt 64 (bits .and .u64 x y) = BitVec.ofInt 64 x &&& BitVec.ofInt 64 y := (bv_wrap _).trans (bv_nat _)
theorem bv_or (x y : Int) : BitVec.ofInt 64 (bits .or .u64 x y) = BitVec.ofInt 64 x ||| BitVec.ofInt 64 y := (bv_wrap _).trans (bv_nat _)
theorem bv_xor (x y : Int) : BitVec.ofInt 64 (bits .xor .u64 x y) = BitVec.ofInt 64 x ^^^ BitVec.ofInt 64 y := (bv_wrap _).trans (bv_nat _)
theorem bv_andNot (x y : Int) : BitVec.ofInt 64 (bits .andNot .u64 x y) = BitVec.ofInt 64 x &&& ~~~ BitVec.ofInt 64 y := (bv_wrap _).trans (bv_nat _)
theorem tb_and (x y : Int) (i : Nat) : tb (bits .and .u64 x y) i = (tb x i && tb y i) := by unfold tb; rw [bv_and, BitVec.getLsbD_and]
theorem tb_or (x y : Int) (i : Nat) : tb (bits .or .u64 x y) i = (tb x i || tb y i) := by unfold tb; rw [bv_or, BitVec.getLsbD_or]
theorem tb_xor (x y : Int) (i : Nat) : tb (bits .xor .u64 x y) i = (tb x i ^^ tb y i) := by unfold tb; rw [bv_xor, BitVec.getLsbD_xor]
theorem tb_andNot (x y : Int) {i : Nat} (hi : i < 64) : tb (bits .andNot .u64 x y) i = (tb x i && !tb y i) := by unfold tb; rw [bv_andNot, BitVec.getLsbD_and, BitVec.getLsbD_not]; simp [hi]
theorem tb_zero (i : Nat) : tb 0 i = false := by unfold tb; simp
theorem tb_ones {i : Nat} (hi : i < 64) : tb 18446744073709551615 i = true := by
  unfold tb
  rw [show BitVec.ofInt 64 18446744073709551615 = BitVec.allOnes 64 from by decide, BitVec.getLsbD_allOnes]
  exact decide_eq_true hi
theorem tb_eq {x y : Int} (hx : 0 ≤ x ∧ x ≤ 18446744073709551615) (hy : 0 ≤ y ∧ y ≤ 18446744073709551615) : (x == y) = true ↔ ∀ i, i < 64 → tb x i = tb y i := by
  rw [beq_iff_eq]
  exact ⟨fun h i _ => by rw [h], tb_ext hx hy⟩
theorem zero_bd : (0 : Int) ≤ 0 ∧ (0 : Int) ≤ 18446744073709551615 := by omega

theorem kmay_iff (a : Kn) : kmay a = true ↔ ∀ i, i < 64 → (tb a.v i && tb a.m i) = false := by
  unfold kmay
  rw [tb_eq (and_bd _ _) zero_bd]
  simp only [tb_and, tb_zero]
theorem khas_iff {a : Kn} (ha : a.wf) (x : Int) : khas a x = true ↔ ∀ i, i < 64 → (tb a.v i && tb a.m i) = false ∧ (tb x i && !tb a.m i) = tb a.v i := by
  unfold khas
  rw [Bool.and_eq_true, kmay_iff, tb_eq (andNot_bd _ _) ha.1]
  constructor
  · rintro ⟨h1, h2⟩ i hi
    exact ⟨h1 i hi, by have := h2 i hi; rwa [tb_andNot _ _ hi] at this⟩
  · intro h
    exact ⟨fun i hi => (h i hi).1, fun i hi => by rw [tb_andNot _ _ hi]; exact (h i hi).2⟩
theorem kin_iff {a b : Kn} (hb : b.wf) : kin a b = true ↔ ∀ i, i < 64 → (tb a.v i && tb a.m i) = false ∧ (tb b.v i && tb b.m i) = false ∧ (tb a.m i || tb b.m i) = tb b.m i ∧ (tb a.v i && !tb b.m i) = tb b.v i := by
  unfold kin
  rw [Bool.and_eq_true, Bool.and_eq_true, Bool.and_eq_true, kmay_iff, kmay_iff, tb_eq (or_bd _ _) hb.2, tb_eq (andNot_bd _ _) hb.1]
  constructor
  · rintro ⟨h1, h2, h3, h4⟩ i hi
    exact ⟨h1 i hi, h2 i hi, by have := h3 i hi; rwa [tb_or] at this, by have := h4 i hi; rwa [tb_andNot _ _ hi] at this⟩
  · intro h
    exact ⟨fun i hi => (h i hi).1, fun i hi => (h i hi).2.1, fun i hi => by rw [tb_or]; exact (h i hi).2.2.1, fun i hi => by rw [tb_andNot _ _ hi]; exact (h i hi).2.2.2⟩
theorem kodds_iff (a b : Kn) : (kodds a b == 0) = true ↔ ∀ i, i < 64 → ((tb a.v i ^^ tb b.v i) && !(tb a.m i || tb b.m i)) = false := by
  unfold kodds
  rw [tb_eq (andNot_bd _ _) zero_bd]
  constructor
  · intro h i hi
    have := h i hi
    rwa [tb_andNot _ _ hi, tb_xor, tb_or, tb_zero] at this
  · intro h i hi
    rw [tb_andNot _ _ hi, tb_xor, tb_or, tb_zero]; exact h i hi
theorem kmeets_iff (a b : Kn) : kmeets a b = true ↔ ∀ i, i < 64 → (tb a.v i && tb a.m i) = false ∧ (tb b.v i && tb b.m i) = false ∧ ((tb a.v i ^^ tb b.v i) && !(tb a.m i || tb b.m i)) = false := by
  unfold kmeets
  rw [Bool.and_eq_true, Bool.and_eq_true, kmay_iff, kmay_iff, kodds_iff]
  exact ⟨fun h i hi => ⟨h.1 i hi, h.2.1 i hi, h.2.2 i hi⟩, fun h => ⟨fun i hi => (h i hi).1, fun i hi => (h i hi).2.1, fun i hi => (h i hi).2.2⟩⟩
theorem kmay_mask (v m : Int) : kmay (kmask v m) = true := by
  rw [kmay_iff]
  intro i hi
  show (tb (bits .andNot .u64 v m) i && tb m i) = false
  rw [tb_andNot _ _ hi]
  cases tb v i <;> cases tb m i <;> rfl
theorem kmay_all : kmay kall = true := by
  rw [kmay_iff]
  intro i hi
  show (tb 0 i && _) = false
  rw [tb_zero]; rfl
theorem khas_all (x : Int) : khas kall x = true := by
  rw [khas_iff wf_kall]
  intro i hi
  show (tb 0 i && tb 18446744073709551615 i) = false ∧ (tb x i && !tb 18446744073709551615 i) = tb 0 i
  rw [tb_zero, tb_ones hi]
  simp
theorem khas_may {a : Kn} {x : Int} (h : khas a x = true) : kmay a = true := by unfold khas at h; rw [Bool.and_eq_true] at h; exact h.1
end Go.Proofs.Ytgfghplnankgnaa


/- Sums and differences of known bits hold the sums and differences of what they hold: by carries. No walk is in here. -/
set_option linter.unusedVariables false
set_option linter.unusedSimpArgs false
namespace Go.Proofs.Ytgfghplnankgnaa
open Go.RowKit

theorem le_of_sub {a b : Nat} (h : ∀ j, a.testBit j = true → b.testBit j = true) : a ≤ b := by
  have : a &&& b = a := by
    apply Nat.eq_of_testBit_eq
    intro j
    rw [Nat.testBit_and]
    cases ha : a.testBit j
    · rfl
    · rw [h j ha]; rfl
  rw [← this]
  exact Nat.and_le_right
/-- The bits of x are among those of y. -/
def Sub64 (x y : BitVec 64) : Prop := ∀ i, x.getLsbD i = true → y.getLsbD i = true
theorem Sub64.mod {x y : BitVec 64} (h : Sub64 x y) (i : Nat) : x.toNat % 2 ^ i ≤ y.toNat % 2 ^ i := by
  apply le_of_sub
  intro j hj
  rw [Nat.testBit_mod_two_pow] at hj ⊢
  simp only [Bool.and_eq_true] at hj ⊢
  exact ⟨hj.1, h j hj.2⟩
/-- p is among what V, M tell. -/
def Among (V M p : BitVec 64) : Prop := ∀ i, i < 64 → (V.getLsbD i && M.getLsbD i) = false ∧ (p.getLsbD i && !M.getLsbD i) = V.getLsbD i
theorem Among.low {V M p : BitVec 64} (h : Among V M p) : Sub64 V p := by
  intro i hi
  have hl := BitVec.lt_of_getLsbD hi
  have := h i hl
  revert this
  rw [hi]
  cases M.getLsbD i <;> cases p.getLsbD i <;> simp
theorem Among.high {V M p : BitVec 64} (h : Among V M p) : Sub64 p (V ||| M) := by
  intro i hi
  have hl := BitVec.lt_of_getLsbD hi
  have := h i hl
  revert this
  rw [BitVec.getLsbD_or, hi]
  cases M.getLsbD i <;> cases V.getLsbD i <;> simp
theorem Among.at {V M p : BitVec 64} (h : Among V M p) {i : Nat} (hi : i < 64) (hm : M.getLsbD i = false) : p.getLsbD i = V.getLsbD i := by
  have := (h i hi).2
  rw [hm] at this
  simpa using this
theorem Among.or {V M p : BitVec 64} (h : Among V M p) : V + M = V ||| M := by
  apply BitVec.add_eq_or_of_and_eq_zero
  apply BitVec.eq_of_getLsbD_eq
  intro i hi
  rw [BitVec.getLsbD_and, (h i hi).1]; simp
theorem among_of {a : Kn} (ha : a.wf) {x : Int} (h : khas a x = true) : Among (BitVec.ofInt 64 a.v) (BitVec.ofInt 64 a.m) (BitVec.ofInt 64 x) := (khas_iff ha x).1 h
end Go.Proofs.Ytgfghplnankgnaa


/- What Do tells holds each result. No walk is in here. -/
set_option linter.unusedVariables false
set_option linter.unusedSimpArgs false
namespace Go.Proofs.Ytgfghplnankgnaa
open Go.RowKit

theorem khas_mask {v m r : Int} (hm : 0 ≤ m ∧ m ≤ 18446744073709551615) : khas (kmask v m) r = true ↔ ∀ i, i < 64 → tb m i = false → tb r i = tb v i := by
  rw [khas_iff (wf_kmask hm)]
  constructor
  · intro h i hi h0
    have h1 : (tb r i && !tb m i) = tb (bits .andNot .u64 v m) i := (h i hi).2
    rw [tb_andNot _ _ hi, h0] at h1
    simpa using h1
  · intro h i hi
    show (tb (bits .andNot .u64 v m) i && tb m i) = false ∧ (tb r i && !tb m i) = tb (bits .andNot .u64 v m) i
    rw [tb_andNot _ _ hi]
    have := h i hi
    revert this
    cases tb v i <;> cases tb m i <;> cases tb r i <;> simp
end Go.Proofs.Ytgfghplnankgnaa


/- What Do tells holds each result, and less where less is known. No walk is in here. -/
set_option linter.unusedVariables false
set_option linter.unusedSimpArgs false
namespace Go.Proofs.Ytgfghplnankgnaa
open Go.RowKit

end Go.Proofs.Ytgfghplnankgnaa


/- Joins, meets, what is within, common bits; where less is known no more is told. No walk is in here. -/
set_option linter.unusedVariables false
set_option linter.unusedSimpArgs false
namespace Go.Proofs.Ytgfghplnankgnaa
open Go.RowKit

theorem kin_iff2 {a b : Kn} (hb : b.wf) : kin a b = true ↔ kmay a = true ∧ kmay b = true ∧ ∀ i, i < 64 → tb b.m i = false → tb a.m i = false ∧ tb a.v i = tb b.v i := by
  rw [kin_iff hb, kmay_iff, kmay_iff]
  constructor
  · intro h
    refine ⟨fun i hi => (h i hi).1, fun i hi => (h i hi).2.1, fun i hi hm => ?_⟩
    have := h i hi
    revert this hm
    cases tb a.v i <;> cases tb a.m i <;> cases tb b.v i <;> cases tb b.m i <;> simp
  · rintro ⟨h1, h2, h3⟩ i hi
    have a1 := h1 i hi
    have a2 := h2 i hi
    have a3 := h3 i hi
    revert a1 a2 a3
    cases tb a.v i <;> cases tb a.m i <;> cases tb b.v i <;> cases tb b.m i <;> simp
theorem khas_iff2 {a : Kn} (ha : a.wf) (x : Int) : khas a x = true ↔ kmay a = true ∧ ∀ i, i < 64 → tb a.m i = false → tb x i = tb a.v i := by
  rw [khas_iff ha, kmay_iff]
  constructor
  · intro h
    refine ⟨fun i hi => (h i hi).1, fun i hi hm => ?_⟩
    have := h i hi
    revert this hm
    cases tb a.v i <;> cases tb a.m i <;> cases tb x i <;> simp
  · rintro ⟨h1, h2⟩ i hi
    have a1 := h1 i hi
    have a2 := h2 i hi
    revert a1 a2
    cases tb a.v i <;> cases tb a.m i <;> cases tb x i <;> simp
theorem kin_has {a b : Kn} (ha : a.wf) (hb : b.wf) (h : kin a b = true) {z : Int} (hz : khas a z = true) : khas b z = true := by
  obtain ⟨h1, h2, h3⟩ := (kin_iff2 hb).1 h
  obtain ⟨_, h4⟩ := (khas_iff2 ha z).1 hz
  rw [khas_iff2 hb]
  exact ⟨h2, fun i hi hm => (h4 i hi (h3 i hi hm).1).trans (h3 i hi hm).2⟩
theorem kjoin_eq {a b : Kn} (h1 : kmay a = true) (h2 : kmay b = true) : kjoin a b = kmask a.v (bits .or .u64 (bits .or .u64 a.m b.m) (bits .xor .u64 a.v b.v)) := by simp [kjoin, h1, h2]
theorem kin_mask {a : Kn} {v m : Int} (hm : 0 ≤ m ∧ m ≤ 18446744073709551615) (h1 : kmay a = true) (h : ∀ i, i < 64 → tb m i = false → tb a.m i = false ∧ tb a.v i = tb v i) : kin a (kmask v m) = true := by
  rw [kin_iff2 (wf_kmask hm)]
  refine ⟨h1, kmay_mask _ _, fun i hi h0 => ?_⟩
  have h0' : tb m i = false := h0
  obtain ⟨g1, g2⟩ := h i hi h0'
  refine ⟨g1, ?_⟩
  show _ = tb (bits .andNot .u64 v m) i
  rw [tb_andNot _ _ hi, h0', g2]; simp
theorem kin_join1 {a b : Kn} (h1 : kmay a = true) (h2 : kmay b = true) : kin a (kjoin a b) = true := by
  rw [kjoin_eq h1 h2]
  refine kin_mask (or_bd _ _) h1 (fun i hi h => ?_)
  rw [tb_or, tb_or, tb_xor] at h
  revert h
  cases tb a.v i <;> cases tb a.m i <;> cases tb b.v i <;> cases tb b.m i <;> simp
theorem kin_join2 {a b : Kn} (h1 : kmay a = true) (h2 : kmay b = true) : kin b (kjoin a b) = true := by
  rw [kjoin_eq h1 h2]
  refine kin_mask (or_bd _ _) h2 (fun i hi h => ?_)
  rw [tb_or, tb_or, tb_xor] at h
  revert h
  cases tb a.v i <;> cases tb a.m i <;> cases tb b.v i <;> cases tb b.m i <;> simp
theorem kmeet_has {a b : Kn} (ha : a.wf) (hb : b.wf) (h : kmeets a b = true) (z : Int) : khas (kmeet a b) z = (khas a z && khas b z) := by
  have hm := (kmeets_iff a b).1 h
  rw [Bool.eq_iff_iff, Bool.and_eq_true, khas_iff ha, khas_iff hb]
  have e : kmeet a b = kmask (bits .or .u64 a.v b.v) (bits .and .u64 a.m b.m) := by simp [kmeet, h]
  rw [e, khas_mask (and_bd _ _)]
  constructor
  · intro g
    constructor
    · intro i hi
      have g1 := g i hi
      have g2 := hm i hi
      rw [tb_and, tb_or] at g1
      revert g1 g2
      cases tb a.v i <;> cases tb a.m i <;> cases tb b.v i <;> cases tb b.m i <;> cases tb z i <;> simp
    · intro i hi
      have g1 := g i hi
      have g2 := hm i hi
      rw [tb_and, tb_or] at g1
      revert g1 g2
      cases tb a.v i <;> cases tb a.m i <;> cases tb b.v i <;> cases tb b.m i <;> cases tb z i <;> simp
  · rintro ⟨g1, g2⟩ i hi h0
    have a1 := g1 i hi
    have a2 := g2 i hi
    rw [tb_and] at h0
    rw [tb_or]
    revert a1 a2 h0
    cases tb a.v i <;> cases tb a.m i <;> cases tb b.v i <;> cases tb b.m i <;> cases tb z i <;> simp
theorem kmeet_none {a b : Kn} (ha : a.wf) (hb : b.wf) (h : kmeets a b = false) (z : Int) : (khas a z && khas b z) = false := by
  cases hz : (khas a z && khas b z)
  · rfl
  · exfalso
    rw [Bool.and_eq_true] at hz
    have g1 := (khas_iff ha z).1 hz.1
    have g2 := (khas_iff hb z).1 hz.2
    have : kmeets a b = true := by
      rw [kmeets_iff]
      intro i hi
      have a1 := g1 i hi
      have a2 := g2 i hi
      revert a1 a2
      cases tb a.v i <;> cases tb a.m i <;> cases tb b.v i <;> cases tb b.m i <;> cases tb z i <;> simp
    rw [h] at this; cases this

end Go.Proofs.Ytgfghplnankgnaa


/- What scalars hold is held by their narrowing and by Given: plain laws. No walk is in here. -/
set_option linter.unusedVariables false
set_option linter.unusedSimpArgs false
namespace Go.Proofs.Ytgfghplnankgnaa
open Go Go.RowKit
theorem kcom_has {r : Rg} (hr : r.wf) {z : Int} (z0 : r.ul ≤ z) (z1 : z ≤ r.uh) : khas (kcom r) z = true := by
  obtain ⟨⟨l0, l1⟩, ⟨u0, u1⟩, _⟩ := hr
  have hx := xor_bd r.ul r.uh
  obtain ⟨n, hn⟩ : ∃ n, blenN (bits .xor .u64 r.ul r.uh).toNat = n := ⟨_, rfl⟩
  have hle : n ≤ 64 := by rw [← hn]; exact blen_le (by omega)
  have hsame : r.ul / 2 ^ n = r.uh / 2 ^ n := by
    refine (diff_iff r.ul r.uh n hle l0 l1 u0 u1).1 ?_
    have hlt := blen_lt (bits .xor .u64 r.ul r.uh).toNat
    rw [hn] at hlt
    obtain ⟨x, hx'⟩ := Int.eq_ofNat_of_zero_le hx.1
    rw [hx'] at hlt hx ⊢
    have hq : 1 ≤ (2 : Nat) ^ n := Nat.one_le_two_pow
    have hp : (2 : Nat) ^ n ≤ 2 ^ 64 := Nat.pow_le_pow_right (by omega) hle
    rw [show ((2 : Int) ^ n - 1) = ((2 ^ n - 1 : Nat) : Int) from by rw [Int.ofNat_sub hq]; simp, u64_andNot_nat x (2 ^ n - 1) (by omega) (by omega)]
    have h6 := (and_high x n hle (by omega)).2 (Nat.div_eq_of_lt (by simpa using hlt))
    exact_mod_cast h6
  have hz : z / 2 ^ n = r.ul / 2 ^ n := by
    have hp : (0 : Int) < 2 ^ n := Int.pow_pos (by omega)
    have g1 := Int.ediv_le_ediv hp z0
    have g2 := Int.ediv_le_ediv hp z1
    omega
  have hd := (diff_iff z r.ul _ hle (by omega) (by omega) l0 l1).2 hz
  have hpb := pow_bd0 hle
  have hcv : kcom r = kmask r.ul (2 ^ n - 1) := by unfold kcom bfill; rw [hn]
  rw [hcv, khas_mask (by generalize (2 : Int) ^ n = x at *; omega)]
  intro i hi' hm
  have h5 := (tb_eq (andNot_bd _ _) zero_bd).1 (beq_iff_eq.2 hd) i hi'
  rw [tb_andNot _ _ hi', tb_xor, tb_zero, hm] at h5
  revert h5
  cases tb z i <;> cases tb r.ul i <;> simp
theorem wf_vlo {k : Kn} (hk : k.wf) : (vlo k).wf := ⟨hk.1, or_bd _ _, by simp [vlo, ball], by simp [vlo, ball]⟩
theorem lo_has {k : Kn} (hk : k.wf) {x : Int} (hx : 0 ≤ x ∧ x ≤ 18446744073709551615) (h : khas k x = true) : bhas (vlo k) x = true := by
  have A := among_of hk h
  have h1 := A.low.mod 64
  have h2 := A.high.mod 64
  rw [← bv_or] at h2
  have e1 := bv_toNat hk.1.1 hk.1.2
  have e2 := bv_toNat hx.1 hx.2
  have e3 := bv_toNat (or_bd k.v k.m).1 (or_bd k.v k.m).2
  rw [Nat.mod_eq_of_lt (BitVec.isLt _), Nat.mod_eq_of_lt (BitVec.isLt _)] at h1 h2
  rw [bhas_iff]
  have := s64_bd x
  show k.v ≤ x ∧ x ≤ bits .or .u64 k.v k.m ∧ -9223372036854775808 ≤ s64 x ∧ s64 x ≤ 9223372036854775807
  omega
theorem wf_bmeet {a b : Rg} (ha : a.wf) (hb : b.wf) : (bmeet a b).wf := by
  unfold bmeet
  split
  · exact wf_bnar (wf_meet0 ha hb)
  · exact wf_ball
theorem wf_kmeet (a b : Kn) : (kmeet a b).wf := by
  unfold kmeet
  split
  · exact wf_kmask (and_bd _ _)
  · exact wf_kall
theorem wf_kcom {r : Rg} (hr : r.wf) : (kcom r).wf := wf_kmask (bfill_bd (xor_bd _ _).2)
theorem wf_sc {r : Rg} {k : Kn} (hr : r.wf) (hk : k.wf) : (sc r k).wf := ⟨hr, hk⟩
theorem wf_vst {a : Sc} (ha : a.wf) : (vst a).wf := wf_sc (wf_bmeet ha.r (wf_vlo ha.k)) (wf_kmeet _ _)
theorem vhas_mk {a : Sc} {x : Int} (h1 : bhas a.r x = true) (h2 : khas a.k x = true) : vhas a x = true := by
  unfold vhas vmay
  rw [bhas_may h1, khas_may h2, h1, h2]; rfl
theorem vhas_r {a : Sc} {x : Int} (h : vhas a x = true) : bhas a.r x = true := by unfold vhas at h; simp only [Bool.and_eq_true] at h; exact h.2.1
theorem vhas_k {a : Sc} {x : Int} (h : vhas a x = true) : khas a.k x = true := by unfold vhas at h; simp only [Bool.and_eq_true] at h; exact h.2.2
theorem vhas_may {a : Sc} {x : Int} (h : vhas a x = true) : vmay a = true := by unfold vhas at h; rw [Bool.and_eq_true] at h; exact h.1
theorem kmeets_of {a b : Kn} (ha : a.wf) (hb : b.wf) {z : Int} (h1 : khas a z = true) (h2 : khas b z = true) : kmeets a b = true ∧ khas (kmeet a b) z = true := by
  cases h : kmeets a b
  · have := kmeet_none ha hb h z
    rw [h1, h2] at this; cases this
  · exact ⟨rfl, by rw [kmeet_has ha hb h z, h1, h2]; rfl⟩
theorem bmeets_of {a b : Rg} (ha : a.wf) (hb : b.wf) {z : Int} (hz : 0 ≤ z ∧ z ≤ 18446744073709551615) (h1 : bhas a z = true) (h2 : bhas b z = true) : bmeets a b = true ∧ bhas (bmeet a b) z = true := by
  have h := has_meet ha hb hz.1 hz.2 h2
  rw [h1] at h
  have h := h.symm
  rw [Bool.and_eq_true] at h
  exact h
theorem vst_has {a : Sc} (ha : a.wf) {x : Int} (hx : 0 ≤ x ∧ x ≤ 18446744073709551615) (h : vhas a x = true) : vs1 a = true ∧ vs2 a = true ∧ vhas (vst a) x = true := by
  have h1 := bmeets_of ha.r (wf_vlo ha.k) hx (vhas_r h) (lo_has ha.k hx (vhas_k h))
  have hw := wf_bmeet ha.r (wf_vlo ha.k)
  have hb := (bhas_iff _ _).1 h1.2
  have h2 := kmeets_of ha.k (wf_kcom hw) (vhas_k h) (kcom_has hw hb.1 hb.2.1)
  exact ⟨h1.1, h2.1, vhas_mk (a := vst a) h1.2 h2.2⟩
theorem vnar_has {a : Sc} (ha : a.wf) {x : Int} (hx : 0 ≤ x ∧ x ≤ 18446744073709551615) (h : vhas a x = true) : vnok a = true ∧ vhas (vnar a) x = true := by
  obtain ⟨h1, h2, h3⟩ := vst_has ha hx h
  obtain ⟨g1, g2, g3⟩ := vst_has (wf_vst ha) hx h3
  have e := vn_t (vhas_may h) h1 h2 g1 g2
  exact ⟨e.2, by rw [e.1]; exact g3⟩
end Go.Proofs.Ytgfghplnankgnaa


/- What scalars hold is held by what they are joined and widened to, and each result of an operation by Do: plain laws. No walk is in here. -/
set_option linter.unusedVariables false
set_option linter.unusedSimpArgs false
namespace Go.Proofs.Ytgfghplnankgnaa
open Go Go.RowKit
theorem wf_bjoin {a b : Rg} (ha : a.wf) (hb : b.wf) : (bjoin a b).wf := by
  obtain ⟨a1, a2, a3, a4⟩ := ha
  obtain ⟨b1, b2, b3, b4⟩ := hb
  unfold bjoin
  split
  · unfold bjoin0
    refine ⟨?_, ?_, ?_, ?_⟩ <;> simp only <;> omega
  · exact wf_ball
theorem kjoin_has1 {a b : Kn} (ha : a.wf) {x : Int} (h1 : khas a x = true) (h2 : kmay b = true) : khas (kjoin a b) x = true := kin_has ha (wf_kjoin a b) (kin_join1 (khas_may h1) h2) h1
theorem kjoin_has2 {a b : Kn} (hb : b.wf) {x : Int} (h1 : kmay a = true) (h2 : khas b x = true) : khas (kjoin a b) x = true := kin_has hb (wf_kjoin a b) (kin_join2 h1 (khas_may h2)) h2
theorem vmay_r {a : Sc} (h : vmay a = true) : bmay a.r = true := by unfold vmay at h; rw [Bool.and_eq_true] at h; exact h.1
theorem vmay_k {a : Sc} (h : vmay a = true) : kmay a.k = true := by unfold vmay at h; rw [Bool.and_eq_true] at h; exact h.2
theorem wf_bwid {a b : Rg} (ha : a.wf) : (bwid a b).wf := by
  obtain ⟨a1, a2, a3, a4⟩ := ha
  unfold bwid
  refine ⟨?_, ?_, ?_, ?_⟩ <;> simp only <;> split <;> omega
theorem wid_has {a b : Rg} (ha : a.wf) (hb : b.wf) {z : Int} (hz : 0 ≤ z ∧ z ≤ 18446744073709551615) (h : bhas a z = true ∨ bhas b z = true) : bhas (bwid a b) z = true := by
  have hs := s64_bd z
  obtain ⟨a1, a2, a3, a4⟩ := ha
  obtain ⟨b1, b2, b3, b4⟩ := hb
  rw [bhas_iff, bhas_iff] at h
  rw [bhas_iff]
  unfold bwid
  simp only [beq_eq_false_iff_ne, decide_eq_true_eq, ne_eq]
  refine ⟨?_, ?_, ?_, ?_⟩ <;> split <;> omega
theorem vjoin_has {a b : Sc} (ha : a.wf) (hb : b.wf) {z : Int} (hz : 0 ≤ z ∧ z ≤ 18446744073709551615) (ma : vmay a = true) (mb : vmay b = true) (h : vhas a z = true ∨ vhas b z = true) : vhas (vjoin a b) z = true := by
  unfold vjoin
  rw [if_pos ⟨ma, mb⟩]
  refine (vnar_has (wf_sc (wf_bjoin ha.r hb.r) (wf_kjoin _ _)) hz ?_).2
  rcases h with h | h
  · exact vhas_mk (a := sc _ _) (has_join1 (vhas_r h) (vmay_r mb)) (kjoin_has1 ha.k (vhas_k h) (vmay_k mb))
  · exact vhas_mk (a := sc _ _) (has_join2 (vmay_r ma) (vhas_r h)) (kjoin_has2 hb.k (vmay_k ma) (vhas_k h))
theorem vwid_has {a b : Sc} (ha : a.wf) (hb : b.wf) {z : Int} (hz : 0 ≤ z ∧ z ≤ 18446744073709551615) (ma : vmay a = true) (mb : vmay b = true) (h : vhas a z = true ∨ vhas b z = true) : vhas (vwid a b) z = true := by
  unfold vwid
  rw [if_pos ⟨ma, mb⟩]
  refine (vnar_has (wf_sc (wf_bwid ha.r) (wf_kjoin _ _)) hz ?_).2
  refine vhas_mk (a := sc _ _) (wid_has ha.r hb.r hz ?_) ?_
  · rcases h with h | h
    · exact .inl (vhas_r h)
    · exact .inr (vhas_r h)
  · rcases h with h | h
    · exact kjoin_has1 ha.k (vhas_k h) (vmay_k mb)
    · exact kjoin_has2 hb.k (vmay_k ma) (vhas_k h)
end Go.Proofs.Ytgfghplnankgnaa


/- Plain laws of masks: which bits two numbers differ in; Do of known bits, way by way, as the document has it. -/
set_option linter.unusedVariables false
set_option linter.unusedSimpArgs false
namespace Go.Proofs.Ytgfghplnankgnaa
open Go.RowKit

section
variable {op l : Int} {a b : Kn}
end
end Go.Proofs.Ytgfghplnankgnaa

