/- Joins, meets, what is within, common bits; where less is known no more is told. No walk is in here. -/
import Derived.Test.YtkoiaadhbgccaaaKnL4
set_option linter.unusedVariables false
set_option linter.unusedSimpArgs false
namespace Go.Proofs.Ytkoiaadhbgccaaa
open Go.RowKit

def ksome (a : Kn) (x : Int) : Int := bits .or .u64 a.v (bits .and .u64 x a.m)
theorem ksome_bd (a : Kn) (x : Int) : 0 ≤ ksome a x ∧ ksome a x ≤ 18446744073709551615 := or_bd _ _
theorem ksome_has {a : Kn} (ha : a.wf) (h : kmay a = true) (x : Int) : khas a (ksome a x) = true := by
  rw [khas_iff ha]
  intro i hi
  have := (kmay_iff a).1 h i hi
  unfold ksome
  rw [tb_or, tb_and]
  revert this
  cases tb a.v i <;> cases tb a.m i <;> cases tb x i <;> simp
theorem khas_may_eq {a : Kn} (h : kmay a = true) (z : Int) : khas a z = (bits .andNot .u64 z a.m == a.v) := by unfold khas; rw [h, Bool.true_and]
theorem kin_iff2 {a b : Kn} (hb : b.wf) : kin a b = true ↔ kmay a = true ∧ kmay b = true ∧ ∀ i, i < 64 → tb b.m i = false → tb a.m i = false ∧ tb a.v i = tb b.v i := by
  rw [kin_iff hb, kmay_iff, kmay_iff]
  constructor
  · intro h
    refine ⟨fun i hi => (h i hi).1, fun i hi => (h i hi).2.1, fun i hi hm => ?_⟩
    have := h i hi
    revert this hm
    cases tb a.v i <;> cases tb a.m i <;> cases tb b.v i <;> cases tb b.m i <;> simp
  · rintro ⟨h1, h2, h3⟩ i hi
    have a1 := h1 i hi
    have a2 := h2 i hi
    have a3 := h3 i hi
    revert a1 a2 a3
    cases tb a.v i <;> cases tb a.m i <;> cases tb b.v i <;> cases tb b.m i <;> simp
theorem khas_iff2 {a : Kn} (ha : a.wf) (x : Int) : khas a x = true ↔ kmay a = true ∧ ∀ i, i < 64 → tb a.m i = false → tb x i = tb a.v i := by
  rw [khas_iff ha, kmay_iff]
  constructor
  · intro h
    refine ⟨fun i hi => (h i hi).1, fun i hi hm => ?_⟩
    have := h i hi
    revert this hm
    cases tb a.v i <;> cases tb a.m i <;> cases tb x i <;> simp
  · rintro ⟨h1, h2⟩ i hi
    have a1 := h1 i hi
    have a2 := h2 i hi
    revert a1 a2
    cases tb a.v i <;> cases tb a.m i <;> cases tb x i <;> simp
theorem kin_has {a b : Kn} (ha : a.wf) (hb : b.wf) (h : kin a b = true) {z : Int} (hz : khas a z = true) : khas b z = true := by
  obtain ⟨h1, h2, h3⟩ := (kin_iff2 hb).1 h
  obtain ⟨_, h4⟩ := (khas_iff2 ha z).1 hz
  rw [khas_iff2 hb]
  exact ⟨h2, fun i hi hm => (h4 i hi (h3 i hi hm).1).trans (h3 i hi hm).2⟩
theorem kjoin_eq {a b : Kn} (h1 : kmay a = true) (h2 : kmay b = true) : kjoin a b = kmask a.v (bits .or .u64 (bits .or .u64 a.m b.m) (bits .xor .u64 a.v b.v)) := by simp [kjoin, h1, h2]
theorem kmay_join (a b : Kn) : kmay (kjoin a b) = true := by
  unfold kjoin; split
  · exact kmay_mask _ _
  · exact kmay_all
theorem kin_mask {a : Kn} {v m : Int} (hm : 0 ≤ m ∧ m ≤ 18446744073709551615) (h1 : kmay a = true) (h : ∀ i, i < 64 → tb m i = false → tb a.m i = false ∧ tb a.v i = tb v i) : kin a (kmask v m) = true := by
  rw [kin_iff2 (wf_kmask hm)]
  refine ⟨h1, kmay_mask _ _, fun i hi h0 => ?_⟩
  have h0' : tb m i = false := h0
  obtain ⟨g1, g2⟩ := h i hi h0'
  refine ⟨g1, ?_⟩
  show _ = tb (bits .andNot .u64 v m) i
  rw [tb_andNot _ _ hi, h0', g2]; simp
theorem kin_join1 {a b : Kn} (h1 : kmay a = true) (h2 : kmay b = true) : kin a (kjoin a b) = true := by
  rw [kjoin_eq h1 h2]
  refine kin_mask (or_bd _ _) h1 (fun i hi h => ?_)
  rw [tb_or, tb_or, tb_xor] at h
  revert h
  cases tb a.v i <;> cases tb a.m i <;> cases tb b.v i <;> cases tb b.m i <;> simp
theorem kin_join2 {a b : Kn} (h1 : kmay a = true) (h2 : kmay b = true) : kin b (kjoin a b) = true := by
  rw [kjoin_eq h1 h2]
  refine kin_mask (or_bd _ _) h2 (fun i hi h => ?_)
  rw [tb_or, tb_or, tb_xor] at h
  revert h
  cases tb a.v i <;> cases tb a.m i <;> cases tb b.v i <;> cases tb b.m i <;> simp
theorem kmeet_has {a b : Kn} (ha : a.wf) (hb : b.wf) (h : kmeets a b = true) (z : Int) : khas (kmeet a b) z = (khas a z && khas b z) := by
  have hm := (kmeets_iff a b).1 h
  rw [Bool.eq_iff_iff, Bool.and_eq_true, khas_iff ha, khas_iff hb]
  have e : kmeet a b = kmask (bits .or .u64 a.v b.v) (bits .and .u64 a.m b.m) := by simp [kmeet, h]
  rw [e, khas_mask (and_bd _ _)]
  constructor
  · intro g
    constructor
    · intro i hi
      have g1 := g i hi
      have g2 := hm i hi
      rw [tb_and, tb_or] at g1
      revert g1 g2
      cases tb a.v i <;> cases tb a.m i <;> cases tb b.v i <;> cases tb b.m i <;> cases tb z i <;> simp
    · intro i hi
      have g1 := g i hi
      have g2 := hm i hi
      rw [tb_and, tb_or] at g1
      revert g1 g2
      cases tb a.v i <;> cases tb a.m i <;> cases tb b.v i <;> cases tb b.m i <;> cases tb z i <;> simp
  · rintro ⟨g1, g2⟩ i hi h0
    have a1 := g1 i hi
    have a2 := g2 i hi
    rw [tb_and] at h0
    rw [tb_or]
    revert a1 a2 h0
    cases tb a.v i <;> cases tb a.m i <;> cases tb b.v i <;> cases tb b.m i <;> cases tb z i <;> simp
theorem kmeet_none {a b : Kn} (ha : a.wf) (hb : b.wf) (h : kmeets a b = false) (z : Int) : (khas a z && khas b z) = false := by
  cases hz : (khas a z && khas b z)
  · rfl
  · exfalso
    rw [Bool.and_eq_true] at hz
    have g1 := (khas_iff ha z).1 hz.1
    have g2 := (khas_iff hb z).1 hz.2
    have : kmeets a b = true := by
      rw [kmeets_iff]
      intro i hi
      have a1 := g1 i hi
      have a2 := g2 i hi
      revert a1 a2
      cases tb a.v i <;> cases tb a.m i <;> cases tb b.v i <;> cases tb b.m i <;> cases tb z i <;> simp
    rw [h] at this; cases this

theorem kcn_le (lo hi : Int) : ∀ (k n : Nat), n + k = 64 → cfrom lo hi k n ≤ 64 := by
  intro k
  induction k with
  | zero => intro n h; simp [cfrom]; omega
  | succ k ih =>
    intro n h
    unfold cfrom
    split
    · omega
    · exact ih (n + 1) (by omega)
theorem kcn_same (lo hi : Int) (h0 : 0 ≤ lo) (h1 : lo ≤ 18446744073709551615) (h2 : 0 ≤ hi) (h3 : hi ≤ 18446744073709551615) : ∀ (k n : Nat), n + k = 64 → lo / 2 ^ cfrom lo hi k n = hi / 2 ^ cfrom lo hi k n := by
  intro k
  induction k with
  | zero =>
    intro n h
    obtain rfl : n = 64 := by omega
    simp only [cfrom]
    omega
  | succ k ih =>
    intro n h
    unfold cfrom
    split
    · assumption
    · exact ih (n + 1) (by omega)
theorem kcommon_has {lo hi z : Int} (h0 : 0 ≤ lo) (h1 : lo ≤ 18446744073709551615) (h2 : 0 ≤ hi) (h3 : hi ≤ 18446744073709551615) (hz0 : lo ≤ z) (hz1 : z ≤ hi) : khas (kcommon lo hi) z = true := by
  have hle : kcn lo hi ≤ 64 := kcn_le lo hi 64 0 rfl
  have hsame : lo / 2 ^ kcn lo hi = hi / 2 ^ kcn lo hi := kcn_same lo hi h0 h1 h2 h3 64 0 rfl
  have hz : z / 2 ^ kcn lo hi = lo / 2 ^ kcn lo hi := by
    have hp : (0 : Int) < 2 ^ kcn lo hi := pow_nn _
    have g1 := Int.ediv_le_ediv hp hz0
    have g2 := Int.ediv_le_ediv hp hz1
    omega
  have hd := (diff_iff z lo _ hle (by omega) (by omega) h0 h1).2 hz
  have hpb := pow_bd0 hle
  have hcv : kcommon lo hi = kmask lo (2 ^ kcn lo hi - 1) := by simp [kcommon, show ¬ hi < lo from by omega]
  rw [hcv, khas_mask (by generalize (2 : Int) ^ kcn lo hi = x at *; omega)]
  intro i hi' hm
  have h5 := (tb_eq (andNot_bd _ _) zero_bd).1 (beq_iff_eq.2 hd) i hi'
  rw [tb_andNot _ _ hi', tb_xor, tb_zero, hm] at h5
  revert h5
  cases tb z i <;> cases tb lo i <;> simp

/-- Where less is known, no more is told. -/
theorem kin_cut {a x : Kn} (ha : a.wf) (hx : x.wf) (h : kin a x = true) {w : Int} (hw : w = 32 ∨ w = 64) : kin (kcut a w) (kcut x w) = true := by
  obtain ⟨h1, h2, h3⟩ := (kin_iff2 hx).1 h
  rw [kin_iff2 (wf_kcut hx w)]
  refine ⟨kmay_cut ha hw, kmay_cut hx hw, fun i hi => ?_⟩
  rw [kcut_v h1, kcut_v h2]
  show tb (zcut x.m w) i = false → tb (zcut a.m w) i = false ∧ tb (zcut a.v w) i = tb (zcut x.v w) i
  rw [tb_cut hx.2.1 hx.2.2 hw hi, tb_cut ha.2.1 ha.2.2 hw hi, tb_cut ha.1.1 ha.1.2 hw hi, tb_cut hx.1.1 hx.1.2 hw hi]
  have g := h3 i hi
  intro hm
  cases hd : decide ((i : Int) < w)
  · simp
  · rw [hd] at hm
    obtain ⟨g1, g2⟩ := g (by simpa using hm)
    simp [g1, g2]
theorem kin_refl {a : Kn} (ha : a.wf) (h : kmay a = true) : kin a a = true := by
  rw [kin_iff2 ha]
  exact ⟨h, h, fun i _ hm => ⟨hm, rfl⟩⟩
theorem kin_all {a : Kn} (h : kmay a = true) : kin a kall = true := by
  rw [kin_iff2 wf_kall]
  refine ⟨h, kmay_all, fun i hi hm => ?_⟩
  have : tb 18446744073709551615 i = false := hm
  rw [tb_ones hi] at this; cases this
theorem kin_v {a x : Kn} (ha : a.wf) (hx : x.wf) (h : kin a x = true) : khas x a.v = true := by
  obtain ⟨h1, h2, h3⟩ := (kin_iff2 hx).1 h
  rw [khas_iff2 hx]
  exact ⟨h2, fun i hi hm => (h3 i hi hm).2⟩
theorem kin_vm {a x : Kn} (ha : a.wf) (hx : x.wf) (h : kin a x = true) : khas x (bits .or .u64 a.v a.m) = true := by
  obtain ⟨h1, h2, h3⟩ := (kin_iff2 hx).1 h
  rw [khas_iff2 hx]
  refine ⟨h2, fun i hi hm => ?_⟩
  obtain ⟨g1, g2⟩ := h3 i hi hm
  rw [tb_or, g1, g2, Bool.or_false]
theorem bv_or_eq {a : Kn} (h : kmay a = true) : BitVec.ofInt 64 a.v + BitVec.ofInt 64 a.m = BitVec.ofInt 64 (bits .or .u64 a.v a.m) := by
  rw [bv_or]
  apply BitVec.add_eq_or_of_and_eq_zero
  apply BitVec.eq_of_getLsbD_eq
  intro i hi
  rw [BitVec.getLsbD_and]
  have := (kmay_iff a).1 h i hi
  unfold tb at this
  rw [this]; simp
end Go.Proofs.Ytkoiaadhbgccaaa
