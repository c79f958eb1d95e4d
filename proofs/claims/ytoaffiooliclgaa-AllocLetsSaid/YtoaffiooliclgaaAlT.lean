/- The walk of math/bits.Len64. -/
import Derived.Test.YtoaffiooliclgaaRows
import Derived.Test.YtoaffiooliclgaaLib
import Derived.WalkKit
import Derived.WalkSpells
import Derived.WalkLawsBesides
import Derived.Lib.BitFns
set_option linter.unusedVariables false
set_option linter.unusedSimpArgs false
set_option linter.unusedVariables false
set_option linter.unusedSimpArgs false
namespace Go.Proofs.Ytoaffiooliclgaa
open Go.RowKit Go.ChangeShapes Go.WideShapes

def blenN (n : Nat) : Nat := if n = 0 then 0 else Nat.log2 n + 1
theorem blen_lt (n : Nat) : n < 2 ^ blenN n := by
  unfold blenN
  split
  · subst_vars; simp
  · exact Nat.lt_log2_self
theorem blen_ge {n : Nat} (h : n ≠ 0) : 2 ^ (blenN n - 1) ≤ n := by
  unfold blenN
  rw [if_neg h]
  exact Nat.log2_self_le h
theorem blen_le {n k : Nat} (h : n < 2 ^ k) : blenN n ≤ k := by
  rcases Nat.eq_zero_or_pos n with h0 | h0
  · simp [blenN, h0]
  · have h1 := blen_ge (n := n) (by omega)
    rcases Nat.lt_or_ge k (blenN n) with hk | hk
    · have : 2 ^ k ≤ 2 ^ (blenN n - 1) := Nat.pow_le_pow_right (by omega) (by omega)
      omega
    · exact hk
theorem len8_blen : ∀ n : Fin 256, Go.Lib.len8 (n.val : Int) = (blenN n.val : Int) := by decide +kernel
theorem blen_eq {n c : Nat} (h1 : 2 ^ c ≤ n) (h2 : n < 2 ^ (c + 1)) : blenN n = c + 1 := by
  have h3 := blen_le h2
  rcases Nat.lt_or_ge (blenN n) (c + 1) with h | h
  · have h4 := blen_lt n
    have h5 : 2 ^ blenN n ≤ 2 ^ c := Nat.pow_le_pow_right (by omega) (by omega)
    omega
  · omega
theorem blen_div {n k : Nat} (h : 2 ^ k ≤ n) : blenN n = k + blenN (n / 2 ^ k) := by
  have hp : 0 < 2 ^ k := Nat.pow_pos (by omega)
  have h0 : n / 2 ^ k ≠ 0 := by
    have := Nat.div_pos h hp
    omega
  have h1 := blen_ge h0
  have h2 := blen_lt (n / 2 ^ k)
  obtain ⟨c, hc⟩ : ∃ c, blenN (n / 2 ^ k) = c + 1 := by
    have : blenN (n / 2 ^ k) ≠ 0 := by
      intro h
      rw [h] at h2
      simp at h2
      omega
    exact ⟨blenN (n / 2 ^ k) - 1, by omega⟩
  rw [hc] at h1 h2 ⊢
  have e1 : 2 ^ (k + c) ≤ n := by
    rw [Nat.pow_add]
    have := Nat.mul_le_mul_left (2 ^ k) h1
    have h3 := Nat.mul_div_le n (2 ^ k)
    simp only [Nat.add_sub_cancel] at this
    omega
  have e2 : n < 2 ^ (k + c + 1) := by
    rw [Nat.add_assoc, Nat.pow_add]
    have h3 := Nat.lt_mul_div_succ n hp
    have := Nat.mul_le_mul_left (2 ^ k) (show n / 2 ^ k + 1 ≤ 2 ^ (c + 1) by omega)
    omega
  rw [blen_eq e1 e2]; omega
theorem blen_small {x : Int} (h0 : 0 ≤ x) (h1 : x < 256) : Go.Lib.len8 x = (blenN x.toNat : Int) ∧ blenN x.toNat ≤ 8 := by
  have := len8_blen ⟨x.toNat, by omega⟩
  have e : ((x.toNat : Nat) : Int) = x := by omega
  simp only [e] at this
  exact ⟨this, blen_le (by omega)⟩
theorem tab_len8 {i : Int} (h0 : 0 ≤ i) (h1 : i < 256) (h2 : i.toNat < Go.Lib.len8tab.size) : (((Go.Lib.len8tab[i.toNat]'h2).toNat : Nat) : Int) = Go.Lib.len8 i := by
  simp only [Go.Lib.len8, ByteArray.getElem?_lt' _ _ h2, Option.getD_some]
theorem u8_id {x : Int} (h0 : 0 ≤ x) (h1 : x < 256) : IntKind.u8.wrap x = x := by rw [show IntKind.u8.wrap x = x % 256 from by simp [IntKind.wrap, IntKind.bits, IntKind.signed]]; omega
theorem blen_sh {x : Int} (k : Nat) (h0 : (2 : Int) ^ k ≤ x) : blenN x.toNat = k + blenN (x / 2 ^ k).toNat := by
  have e : ((2 : Int) ^ k) = ((2 ^ k : Nat) : Int) := by simp
  rw [e] at h0 ⊢
  obtain ⟨n, rfl⟩ : ∃ n : Nat, x = n := ⟨x.toNat, by have := Nat.pow_pos (n := k) (show 0 < 2 by omega); omega⟩
  rw [blen_div (n := (n : Int).toNat) (k := k) (by omega)]
  congr 1
set_option maxRecDepth 100000 in
set_option maxHeartbeats 8000000 in
theorem b_len (x : Int) (h0 : 0 ≤ x) (h1 : x ≤ 18446744073709551615) (W w : World) (hx : Ext W w) :
    Calls Try.prog 36 #[.int .u64 x] w fun e w' => e = .returned (.int .i64 (blenN x.toNat)) ∧ Ext W w' := by
  obtain ⟨r, hr⟩ : ∃ r, blenN x.toNat = r := ⟨_, rfl⟩
  rw [hr]
  have HR := hide hr
  clear hr
  by_cases c0 : 4294967296 ≤ x
  · by_cases c1 : 65536 ≤ (x / 4294967296)
    · by_cases c2 : 256 ≤ ((x / 4294967296) / 65536)
      · have q0 : 0 ≤ (((x / 4294967296) / 65536) / 256) := by omega
        have q1 : (((x / 4294967296) / 65536) / 256) < 256 := by omega
        have e4 := u8_id q0 q1
        have E := hide (blen_small q0 q1)
        have l0 := blen_sh (x := x) 32 (by omega)
        simp only [Int.reducePow] at l0
        have L0 := hide l0
        clear l0
        have l1 := blen_sh (x := (x / 4294967296)) 16 (by omega)
        simp only [Int.reducePow] at l1
        have L1 := hide l1
        clear l1
        have l2 := blen_sh (x := ((x / 4294967296) / 65536)) 8 (by omega)
        simp only [Int.reducePow] at l2
        have L2 := hide l2
        clear l2
        have hN : Hid (r = 32 + (16 + (8 + (blenN (((x / 4294967296) / 65536) / 256).toNat)))) := hide (by rw [← HR.out, L0.out, L1.out, L2.out])
        as_aux_lemma =>
          go_enter Try.func36, Try.ntmps36
          go_wp2_with fail
          all_goals
            go_ret
            refine ⟨ret_int ?_, hx⟩
            have hm := E.out.2
            rw [tab_len8 q0 q1, E.out.1, hN.out]
            generalize blenN _ = m at hm ⊢
            clear q0 q1 e4 c0 c1 c2 h0 h1
            simp only [wrap64]
            omega
      · have q0 : 0 ≤ ((x / 4294967296) / 65536) := by omega
        have q1 : ((x / 4294967296) / 65536) < 256 := by omega
        have e4 := u8_id q0 q1
        have E := hide (blen_small q0 q1)
        have l0 := blen_sh (x := x) 32 (by omega)
        simp only [Int.reducePow] at l0
        have L0 := hide l0
        clear l0
        have l1 := blen_sh (x := (x / 4294967296)) 16 (by omega)
        simp only [Int.reducePow] at l1
        have L1 := hide l1
        clear l1
        have hN : Hid (r = 32 + (16 + (blenN ((x / 4294967296) / 65536).toNat))) := hide (by rw [← HR.out, L0.out, L1.out])
        as_aux_lemma =>
          go_enter Try.func36, Try.ntmps36
          go_wp2_with fail
          all_goals
            go_ret
            refine ⟨ret_int ?_, hx⟩
            have hm := E.out.2
            rw [tab_len8 q0 q1, E.out.1, hN.out]
            generalize blenN _ = m at hm ⊢
            clear q0 q1 e4 c0 c1 c2 h0 h1
            simp only [wrap64]
            omega
    · by_cases c2 : 256 ≤ (x / 4294967296)
      · have q0 : 0 ≤ ((x / 4294967296) / 256) := by omega
        have q1 : ((x / 4294967296) / 256) < 256 := by omega
        have e4 := u8_id q0 q1
        have E := hide (blen_small q0 q1)
        have l0 := blen_sh (x := x) 32 (by omega)
        simp only [Int.reducePow] at l0
        have L0 := hide l0
        clear l0
        have l1 := blen_sh (x := (x / 4294967296)) 8 (by omega)
        simp only [Int.reducePow] at l1
        have L1 := hide l1
        clear l1
        have hN : Hid (r = 32 + (8 + (blenN ((x / 4294967296) / 256).toNat))) := hide (by rw [← HR.out, L0.out, L1.out])
        as_aux_lemma =>
          go_enter Try.func36, Try.ntmps36
          go_wp2_with fail
          all_goals
            go_ret
            refine ⟨ret_int ?_, hx⟩
            have hm := E.out.2
            rw [tab_len8 q0 q1, E.out.1, hN.out]
            generalize blenN _ = m at hm ⊢
            clear q0 q1 e4 c0 c1 c2 h0 h1
            simp only [wrap64]
            omega
      · have q0 : 0 ≤ (x / 4294967296) := by omega
        have q1 : (x / 4294967296) < 256 := by omega
        have e4 := u8_id q0 q1
        have E := hide (blen_small q0 q1)
        have l0 := blen_sh (x := x) 32 (by omega)
        simp only [Int.reducePow] at l0
        have L0 := hide l0
        clear l0
        have hN : Hid (r = 32 + (blenN (x / 4294967296).toNat)) := hide (by rw [← HR.out, L0.out])
        as_aux_lemma =>
          go_enter Try.func36, Try.ntmps36
          go_wp2_with fail
          all_goals
            go_ret
            refine ⟨ret_int ?_, hx⟩
            have hm := E.out.2
            rw [tab_len8 q0 q1, E.out.1, hN.out]
            generalize blenN _ = m at hm ⊢
            clear q0 q1 e4 c0 c1 c2 h0 h1
            simp only [wrap64]
            omega
  · by_cases c1 : 65536 ≤ x
    · by_cases c2 : 256 ≤ (x / 65536)
      · have q0 : 0 ≤ ((x / 65536) / 256) := by omega
        have q1 : ((x / 65536) / 256) < 256 := by omega
        have e4 := u8_id q0 q1
        have E := hide (blen_small q0 q1)
        have l0 := blen_sh (x := x) 16 (by omega)
        simp only [Int.reducePow] at l0
        have L0 := hide l0
        clear l0
        have l1 := blen_sh (x := (x / 65536)) 8 (by omega)
        simp only [Int.reducePow] at l1
        have L1 := hide l1
        clear l1
        have hN : Hid (r = 16 + (8 + (blenN ((x / 65536) / 256).toNat))) := hide (by rw [← HR.out, L0.out, L1.out])
        as_aux_lemma =>
          go_enter Try.func36, Try.ntmps36
          go_wp2_with fail
          all_goals
            go_ret
            refine ⟨ret_int ?_, hx⟩
            have hm := E.out.2
            rw [tab_len8 q0 q1, E.out.1, hN.out]
            generalize blenN _ = m at hm ⊢
            clear q0 q1 e4 c0 c1 c2 h0 h1
            simp only [wrap64]
            omega
      · have q0 : 0 ≤ (x / 65536) := by omega
        have q1 : (x / 65536) < 256 := by omega
        have e4 := u8_id q0 q1
        have E := hide (blen_small q0 q1)
        have l0 := blen_sh (x := x) 16 (by omega)
        simp only [Int.reducePow] at l0
        have L0 := hide l0
        clear l0
        have hN : Hid (r = 16 + (blenN (x / 65536).toNat)) := hide (by rw [← HR.out, L0.out])
        as_aux_lemma =>
          go_enter Try.func36, Try.ntmps36
          go_wp2_with fail
          all_goals
            go_ret
            refine ⟨ret_int ?_, hx⟩
            have hm := E.out.2
            rw [tab_len8 q0 q1, E.out.1, hN.out]
            generalize blenN _ = m at hm ⊢
            clear q0 q1 e4 c0 c1 c2 h0 h1
            simp only [wrap64]
            omega
    · by_cases c2 : 256 ≤ x
      · have q0 : 0 ≤ (x / 256) := by omega
        have q1 : (x / 256) < 256 := by omega
        have e4 := u8_id q0 q1
        have E := hide (blen_small q0 q1)
        have l0 := blen_sh (x := x) 8 (by omega)
        simp only [Int.reducePow] at l0
        have L0 := hide l0
        clear l0
        have hN : Hid (r = 8 + (blenN (x / 256).toNat)) := hide (by rw [← HR.out, L0.out])
        as_aux_lemma =>
          go_enter Try.func36, Try.ntmps36
          go_wp2_with fail
          all_goals
            go_ret
            refine ⟨ret_int ?_, hx⟩
            have hm := E.out.2
            rw [tab_len8 q0 q1, E.out.1, hN.out]
            generalize blenN _ = m at hm ⊢
            clear q0 q1 e4 c0 c1 c2 h0 h1
            simp only [wrap64]
            omega
      · have q0 : 0 ≤ x := by omega
        have q1 : x < 256 := by omega
        have e4 := u8_id q0 q1
        have E := hide (blen_small q0 q1)
        have hN : Hid (r = blenN x.toNat) := hide (by rw [← HR.out])
        as_aux_lemma =>
          go_enter Try.func36, Try.ntmps36
          go_wp2_with fail
          all_goals
            go_ret
            refine ⟨ret_int ?_, hx⟩
            have hm := E.out.2
            rw [tab_len8 q0 q1, E.out.1, hN.out]
            generalize blenN _ = m at hm ⊢
            clear q0 q1 e4 c0 c1 c2 h0 h1
            simp only [wrap64]
            omega
end Go.Proofs.Ytoaffiooliclgaa
