/- Plain laws for the law KnownHalves: one bit that is not known. No walk is in here. -/
import Derived.Test.YtkoiaadhbgccaaaKnL6
set_option linter.unusedSectionVars false
set_option linter.unusedVariables false
set_option linter.unusedSimpArgs false
namespace Go.Proofs.Ytkoiaadhbgccaaa
open Go.RowKit

theorem tb_pow {t i : Nat} (ht : t < 64) (hi : i < 64) : tb (2 ^ t) i = decide (t = i) := by
  rw [show ((2 : Int) ^ t) = ((2 ^ t : Nat) : Int) from by simp, bit_nat _ hi, Nat.testBit_two_pow]
theorem shl_bit {t : Nat} (ht : t < 64) : IntKind.u64.wrap (2 ^ t) = 2 ^ t := by
  have h := pow_bd0 (n := t + 1) (by omega)
  have h2 : (2 : Int) ^ (t + 1) = 2 ^ t * 2 := Int.pow_succ 2 t
  rw [w_u64]
  rw [h2] at h
  generalize (2 : Int) ^ t = x at *
  omega
theorem and63_nat (n : Int) : ∃ t : Nat, bits .and .u64 (IntKind.u64.wrap n) 63 = (t : Int) ∧ t < 64 := by
  have h := wrap_bd n
  rw [and63 _ h.1 h.2]
  exact ⟨(IntKind.u64.wrap n % 64).toNat, by omega, by omega⟩
section
variable {k : Kn} {bt : Int} {t : Nat} (hk : k.wf) (hm : kmay k = true) (ht : t < 64) (hb : ∀ i, i < 64 → tb bt i = decide (t = i)) (hbit : (bits .and .u64 k.m bt == 0) = false)
include hk hm ht hb hbit
theorem half_bit : tb k.m t = true := by
  cases h : tb k.m t
  · exfalso
    have : (bits .and .u64 k.m bt == 0) = true := by
      rw [tb_eq (and_bd _ _) zero_bd]
      intro i hi
      rw [tb_and, tb_zero, hb i hi]
      by_cases hti : t = i
      · subst hti; rw [h]; rfl
      · simp [hti]
    rw [hbit] at this; cases this
  · rfl
theorem half_val : tb k.v t = false := by
  have h1 := half_bit hk hm ht hb hbit
  have := (kmay_iff k).1 hm t ht
  rw [h1, Bool.and_true] at this
  exact this
theorem half_may1 : kmay ⟨k.v, bits .andNot .u64 k.m bt⟩ = true := by
  rw [kmay_iff]
  intro i hi
  have := (kmay_iff k).1 hm i hi
  show (tb k.v i && tb (bits .andNot .u64 k.m bt) i) = false
  rw [tb_andNot _ _ hi]
  revert this
  cases tb k.v i <;> cases tb k.m i <;> simp
theorem half_may2 : kmay ⟨bits .or .u64 k.v bt, bits .andNot .u64 k.m bt⟩ = true := by
  rw [kmay_iff]
  intro i hi
  have := (kmay_iff k).1 hm i hi
  show (tb (bits .or .u64 k.v bt) i && tb (bits .andNot .u64 k.m bt) i) = false
  rw [tb_andNot _ _ hi, tb_or]
  revert this
  cases tb k.v i <;> cases tb k.m i <;> cases tb bt i <;> simp
theorem half_meet : kmeets ⟨k.v, bits .andNot .u64 k.m bt⟩ ⟨bits .or .u64 k.v bt, bits .andNot .u64 k.m bt⟩ = false := by
  cases h : kmeets ⟨k.v, bits .andNot .u64 k.m bt⟩ ⟨bits .or .u64 k.v bt, bits .andNot .u64 k.m bt⟩
  · rfl
  · exfalso
    have h1 := ((kmeets_iff _ _).1 h t ht).2.2
    have h2 : ((tb k.v t ^^ tb (bits .or .u64 k.v bt) t) && !(tb (bits .andNot .u64 k.m bt) t || tb (bits .andNot .u64 k.m bt) t)) = false := h1
    rw [tb_andNot _ _ ht, tb_or, hb t ht, half_val hk hm ht hb hbit] at h2
    simp at h2
theorem half_join : kjoin ⟨k.v, bits .andNot .u64 k.m bt⟩ ⟨bits .or .u64 k.v bt, bits .andNot .u64 k.m bt⟩ = k := by
  rw [kjoin_eq (half_may1 hk hm ht hb hbit) (half_may2 hk hm ht hb hbit)]
  have h1 := half_bit hk hm ht hb hbit
  have h2 := half_val hk hm ht hb hbit
  have e : bits .or .u64 (bits .or .u64 (bits .andNot .u64 k.m bt) (bits .andNot .u64 k.m bt)) (bits .xor .u64 k.v (bits .or .u64 k.v bt)) = k.m := by
    apply tb_ext (or_bd _ _) hk.2
    intro i hi
    rw [tb_or, tb_or, tb_xor, tb_or, tb_andNot _ _ hi, hb i hi]
    by_cases hti : t = i
    · subst hti
      rw [h1, h2]; simp
    · simp [hti]
  apply kn_ext
  · show bits .andNot .u64 k.v _ = k.v
    apply tb_ext (andNot_bd _ _) hk.1
    intro i hi
    rw [tb_andNot _ _ hi]
    have := (kmay_iff k).1 hm i hi
    show (tb k.v i && !tb (bits .or .u64 (bits .or .u64 (bits .andNot .u64 k.m bt) (bits .andNot .u64 k.m bt)) (bits .xor .u64 k.v (bits .or .u64 k.v bt))) i) = tb k.v i
    rw [e]
    revert this
    cases tb k.v i <;> cases tb k.m i <;> simp
  · exact e
theorem half_in1 : kin ⟨k.v, bits .andNot .u64 k.m bt⟩ k = true := by
  rw [kin_iff2 hk]
  refine ⟨half_may1 hk hm ht hb hbit, hm, fun i hi h0 => ?_⟩
  show tb (bits .andNot .u64 k.m bt) i = false ∧ tb k.v i = tb k.v i
  rw [tb_andNot _ _ hi, h0]
  exact ⟨rfl, rfl⟩
theorem half_in2 : kin ⟨bits .or .u64 k.v bt, bits .andNot .u64 k.m bt⟩ k = true := by
  rw [kin_iff2 hk]
  refine ⟨half_may2 hk hm ht hb hbit, hm, fun i hi h0 => ?_⟩
  show tb (bits .andNot .u64 k.m bt) i = false ∧ tb (bits .or .u64 k.v bt) i = tb k.v i
  rw [tb_andNot _ _ hi, tb_or, h0, hb i hi]
  have hti : ¬ t = i := fun e => by
    rw [← e, half_bit hk hm ht hb hbit] at h0; cases h0
  simp [hti]
theorem half_out : kin k ⟨k.v, bits .andNot .u64 k.m bt⟩ = false := by
  cases h : kin k ⟨k.v, bits .andNot .u64 k.m bt⟩
  · rfl
  · exfalso
    have h1 := ((kin_iff2 (b := ⟨k.v, bits .andNot .u64 k.m bt⟩) ⟨hk.1, andNot_bd _ _⟩).1 h).2.2 t ht (by show tb (bits .andNot .u64 k.m bt) t = false; rw [tb_andNot _ _ ht, hb t ht]; simp)
    rw [half_bit hk hm ht hb hbit] at h1
    cases h1.1
end
end Go.Proofs.Ytkoiaadhbgccaaa
