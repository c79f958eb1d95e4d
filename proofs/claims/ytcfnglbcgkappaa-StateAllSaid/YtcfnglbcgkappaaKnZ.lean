/- Texts BdX, BitsPm, BitsHo, BdP, KnL1, KnL2, KnL3, KnL4, KnL5, Vl, Vm, KnX in one. -/
import Derived.Test.YtcfnglbcgkappaaKxZ
import Derived.Test.YtcfnglbcgkappaaBdZ
import Derived.Deep.RegionHeld3
import Derived.Deep.RegionWith
import Derived.Deep.DeepCutAuto
import Derived.Deep.CutBlock
import Derived.Test.YtcfnglbcgkappaaKnQ
import Derived.Test.YtcfnglbcgkappaaVk
import Derived.Test.YtcfnglbcgkappaaXbZ
/- What Given comes to; contracts with letters. -/
set_option linter.unusedVariables false
set_option linter.unusedSimpArgs false
namespace Go.Proofs.Ytcfnglbcgkappaa
open Go.RowKit Go.ChangeShapes Go.WideShapes

end Go.Proofs.Ytcfnglbcgkappaa


/- Plain laws of shifts: what the law BitsParts needs of zdo. -/
set_option linter.unusedVariables false
set_option linter.unusedSimpArgs false
namespace Go.Proofs.Ytcfnglbcgkappaa
open Go.RowKit

/-- The signed number of a word. -/
def zs (v w : Int) : Int := wrap64 (zsign (zcut v w) w)
end Go.Proofs.Ytcfnglbcgkappaa


/- The walks of order, Holds and Not, and of the reference's Holds and Not. -/
set_option linter.unusedVariables false
set_option linter.unusedSimpArgs false
namespace Go.Proofs.Ytcfnglbcgkappaa
open Go.RowKit

end Go.Proofs.Ytcfnglbcgkappaa


/- Plain laws for BoundsGiven. No walk is in here. -/
set_option linter.unusedVariables false
set_option linter.unusedSimpArgs false
namespace Go.Proofs.Ytcfnglbcgkappaa
open Go.RowKit

end Go.Proofs.Ytcfnglbcgkappaa


/- Plain laws of known bits, bit by bit. No walk is in here. -/
set_option linter.unusedVariables false
set_option linter.unusedSimpArgs false
namespace Go.Proofs.Ytcfnglbcgkappaa
open Go.RowKit

/-- Bit i of a 64-bit number. -/
def tb (x : Int) (i : Nat) : Bool := (BitVec.ofInt 64 x).getLsbD i
theorem bv_toNat {x : Int} (h0 : 0 ≤ x) (h1 : x ≤ 18446744073709551615) : ((BitVec.ofInt 64 x).toNat : Int) = x := by
  rw [BitVec.toNat_ofInt]; omega
theorem bv_inj {x y : Int} (h0 : 0 ≤ x) (h1 : x ≤ 18446744073709551615) (h2 : 0 ≤ y) (h3 : y ≤ 18446744073709551615) (h : BitVec.ofInt 64 x = BitVec.ofInt 64 y) : x = y := by
  rw [← bv_toNat h0 h1, ← bv_toNat h2 h3, h]
theorem tb_ext {x y : Int} (hx : 0 ≤ x ∧ x ≤ 18446744073709551615) (hy : 0 ≤ y ∧ y ≤ 18446744073709551615) (h : ∀ i, i < 64 → tb x i = tb y i) : x = y :=
  bv_inj hx.1 hx.2 hy.1 hy.2 (BitVec.eq_of_getLsbD_eq fun i hi => h i hi)
theorem bv_wrap (x : Int) : BitVec.ofInt 64 (IntKind.u64.wrap x) = BitVec.ofInt 64 x := by
  apply BitVec.eq_of_toNat_eq
  rw [BitVec.toNat_ofInt, BitVec.toNat_ofInt, w_u64]
  omega
theorem bv_nat (x : BitVec 64) : BitVec.ofInt 64 (x.toNat : Int) = x := by simp
theorem bv_and (x y : Int) : BitVec.ofInt 64 (bits .and .u64 x y) = BitVec.ofInt 64 x &&& BitVec.ofInt 64 y := (bv_wrap _).trans (bv_nat _)
theorem bv_or (x y : Int) : BitVec.ofInt 64 (bits .or .u64 x y) = BitVec.ofInt 64 x ||| BitVec.ofInt 64 y := (bv_wrap _).trans (bv_nat _)
theorem bv_andNot (x y : Int) : BitVec.ofInt 64 (bits .andNot .u64 x y) = BitVec.ofInt 64 x &&& ~~~ BitVec.ofInt 64 y := (bv_wrap _).trans (bv_nat _)
theorem tb_and (x y : Int) (i : Nat) : tb (bits .and .u64 x y) i = (tb x i && tb y i) := by unfold tb; rw [bv_and, BitVec.getLsbD_and]
theorem tb_or (x y : Int) (i : Nat) : tb (bits .or .u64 x y) i = (tb x i || tb y i) := by unfold tb; rw [bv_or, BitVec.getLsbD_or]
theorem tb_andNot (x y : Int) {i : Nat} (hi : i < 64) : tb (bits .andNot .u64 x y) i = (tb x i && !tb y i) := by unfold tb; rw [bv_andNot, BitVec.getLsbD_and, BitVec.getLsbD_not]; simp [hi]
theorem tb_zero (i : Nat) : tb 0 i = false := by unfold tb; simp
theorem tb_ones {i : Nat} (hi : i < 64) : tb 18446744073709551615 i = true := by
  unfold tb
  rw [show BitVec.ofInt 64 18446744073709551615 = BitVec.allOnes 64 from by decide, BitVec.getLsbD_allOnes]
  exact decide_eq_true hi
theorem tb_eq {x y : Int} (hx : 0 ≤ x ∧ x ≤ 18446744073709551615) (hy : 0 ≤ y ∧ y ≤ 18446744073709551615) : (x == y) = true ↔ ∀ i, i < 64 → tb x i = tb y i := by
  rw [beq_iff_eq]
  exact ⟨fun h i _ => by rw [h], tb_ext hx hy⟩
theorem zero_bd : (0 : Int) ≤ 0 ∧ (0 : Int) ≤ 18446744073709551615 := by omega

theorem kmay_iff (a : Kn) : kmay a = true ↔ ∀ i, i < 64 → (tb a.v i && tb a.m i) = false := by
  unfold kmay
  rw [tb_eq (and_bd _ _) zero_bd]
  simp only [tb_and, tb_zero]
theorem khas_iff {a : Kn} (ha : a.wf) (x : Int) : khas a x = true ↔ ∀ i, i < 64 → (tb a.v i && tb a.m i) = false ∧ (tb x i && !tb a.m i) = tb a.v i := by
  unfold khas
  rw [Bool.and_eq_true, kmay_iff, tb_eq (andNot_bd _ _) ha.1]
  constructor
  · rintro ⟨h1, h2⟩ i hi
    exact ⟨h1 i hi, by have := h2 i hi; rwa [tb_andNot _ _ hi] at this⟩
  · intro h
    exact ⟨fun i hi => (h i hi).1, fun i hi => by rw [tb_andNot _ _ hi]; exact (h i hi).2⟩
theorem kin_iff {a b : Kn} (hb : b.wf) : kin a b = true ↔ ∀ i, i < 64 → (tb a.v i && tb a.m i) = false ∧ (tb b.v i && tb b.m i) = false ∧ (tb a.m i || tb b.m i) = tb b.m i ∧ (tb a.v i && !tb b.m i) = tb b.v i := by
  unfold kin
  rw [Bool.and_eq_true, Bool.and_eq_true, Bool.and_eq_true, kmay_iff, kmay_iff, tb_eq (or_bd _ _) hb.2, tb_eq (andNot_bd _ _) hb.1]
  constructor
  · rintro ⟨h1, h2, h3, h4⟩ i hi
    exact ⟨h1 i hi, h2 i hi, by have := h3 i hi; rwa [tb_or] at this, by have := h4 i hi; rwa [tb_andNot _ _ hi] at this⟩
  · intro h
    exact ⟨fun i hi => (h i hi).1, fun i hi => (h i hi).2.1, fun i hi => by rw [tb_or]; exact (h i hi).2.2.1, fun i hi => by rw [tb_andNot _ _ hi]; exact (h i hi).2.2.2⟩
theorem khas_all (x : Int) : khas kall x = true := by
  rw [khas_iff wf_kall]
  intro i hi
  show (tb 0 i && tb 18446744073709551615 i) = false ∧ (tb x i && !tb 18446744073709551615 i) = tb 0 i
  rw [tb_zero, tb_ones hi]
  simp
theorem khas_may {a : Kn} {x : Int} (h : khas a x = true) : kmay a = true := by unfold khas at h; rw [Bool.and_eq_true] at h; exact h.1
end Go.Proofs.Ytcfnglbcgkappaa


/- Sums and differences of known bits hold the sums and differences of what they hold: by carries. No walk is in here. -/
set_option linter.unusedVariables false
set_option linter.unusedSimpArgs false
namespace Go.Proofs.Ytcfnglbcgkappaa
open Go.RowKit

/-- The bits of x are among those of y. -/
def Sub64 (x y : BitVec 64) : Prop := ∀ i, x.getLsbD i = true → y.getLsbD i = true
/-- p is among what V, M tell. -/
def Among (V M p : BitVec 64) : Prop := ∀ i, i < 64 → (V.getLsbD i && M.getLsbD i) = false ∧ (p.getLsbD i && !M.getLsbD i) = V.getLsbD i
theorem Among.low {V M p : BitVec 64} (h : Among V M p) : Sub64 V p := by
  intro i hi
  have hl := BitVec.lt_of_getLsbD hi
  have := h i hl
  revert this
  rw [hi]
  cases M.getLsbD i <;> cases p.getLsbD i <;> simp
theorem Among.high {V M p : BitVec 64} (h : Among V M p) : Sub64 p (V ||| M) := by
  intro i hi
  have hl := BitVec.lt_of_getLsbD hi
  have := h i hl
  revert this
  rw [BitVec.getLsbD_or, hi]
  cases M.getLsbD i <;> cases V.getLsbD i <;> simp
theorem Among.at {V M p : BitVec 64} (h : Among V M p) {i : Nat} (hi : i < 64) (hm : M.getLsbD i = false) : p.getLsbD i = V.getLsbD i := by
  have := (h i hi).2
  rw [hm] at this
  simpa using this
theorem Among.or {V M p : BitVec 64} (h : Among V M p) : V + M = V ||| M := by
  apply BitVec.add_eq_or_of_and_eq_zero
  apply BitVec.eq_of_getLsbD_eq
  intro i hi
  rw [BitVec.getLsbD_and, (h i hi).1]; simp
end Go.Proofs.Ytcfnglbcgkappaa


/- What Do tells holds each result. No walk is in here. -/
set_option linter.unusedVariables false
set_option linter.unusedSimpArgs false
namespace Go.Proofs.Ytcfnglbcgkappaa
open Go.RowKit

end Go.Proofs.Ytcfnglbcgkappaa


/- What Do tells holds each result, and less where less is known. No walk is in here. -/
set_option linter.unusedVariables false
set_option linter.unusedSimpArgs false
namespace Go.Proofs.Ytcfnglbcgkappaa
open Go.RowKit

end Go.Proofs.Ytcfnglbcgkappaa


/- Joins, meets, what is within, common bits; where less is known no more is told. No walk is in here. -/
set_option linter.unusedVariables false
set_option linter.unusedSimpArgs false
namespace Go.Proofs.Ytcfnglbcgkappaa
open Go.RowKit

theorem kin_iff2 {a b : Kn} (hb : b.wf) : kin a b = true ↔ kmay a = true ∧ kmay b = true ∧ ∀ i, i < 64 → tb b.m i = false → tb a.m i = false ∧ tb a.v i = tb b.v i := by
  rw [kin_iff hb, kmay_iff, kmay_iff]
  constructor
  · intro h
    refine ⟨fun i hi => (h i hi).1, fun i hi => (h i hi).2.1, fun i hi hm => ?_⟩
    have := h i hi
    revert this hm
    cases tb a.v i <;> cases tb a.m i <;> cases tb b.v i <;> cases tb b.m i <;> simp
  · rintro ⟨h1, h2, h3⟩ i hi
    have a1 := h1 i hi
    have a2 := h2 i hi
    have a3 := h3 i hi
    revert a1 a2 a3
    cases tb a.v i <;> cases tb a.m i <;> cases tb b.v i <;> cases tb b.m i <;> simp
theorem kin_refl {a : Kn} (ha : a.wf) (h : kmay a = true) : kin a a = true := by
  rw [kin_iff2 ha]
  exact ⟨h, h, fun i _ hm => ⟨hm, rfl⟩⟩
end Go.Proofs.Ytcfnglbcgkappaa


/- What scalars hold is held by their narrowing and by Given: plain laws. No walk is in here. -/
set_option linter.unusedVariables false
set_option linter.unusedSimpArgs false
namespace Go.Proofs.Ytcfnglbcgkappaa
open Go Go.RowKit
theorem vhas_mk {a : Sc} {x : Int} (h1 : bhas a.r x = true) (h2 : khas a.k x = true) : vhas a x = true := by
  unfold vhas vmay
  rw [bhas_may h1, khas_may h2, h1, h2]; rfl
end Go.Proofs.Ytcfnglbcgkappaa


/- What scalars hold is held by what they are joined and widened to, and each result of an operation by Do: plain laws. No walk is in here. -/
set_option linter.unusedVariables false
set_option linter.unusedSimpArgs false
namespace Go.Proofs.Ytcfnglbcgkappaa
open Go Go.RowKit
end Go.Proofs.Ytcfnglbcgkappaa


/- Plain laws of masks: which bits two numbers differ in; Do of known bits, way by way, as the document has it. -/
set_option linter.unusedVariables false
set_option linter.unusedSimpArgs false
namespace Go.Proofs.Ytcfnglbcgkappaa
open Go.RowKit

section
variable {op l : Int} {a b : Kn}
end
end Go.Proofs.Ytcfnglbcgkappaa

