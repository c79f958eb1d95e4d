/- What the document's own Do and Given of ranges come to, case by case, as their runs have them: plain laws. -/
import Derived.Test.YtcfnglbcgkappaaGreatXbE
set_option linter.unusedSectionVars false
set_option linter.unusedSimpArgs false
set_option linter.unusedVariables false
set_option linter.unusedSimpArgs false
namespace Go.Proofs.YtcfnglbcgkappaaGreat
open Go Go.RowKit
theorem rplus_same {a b : Int} (ha : inK .i64 a = true) (hb : inK .i64 b = true) (h : (decide (a < 0) == decide (b < 0)) = true) :
    (decide (opI .add .i64 a b < 0) == decide (a < 0)) = decide (-9223372036854775808 ≤ a + b ∧ a + b ≤ 9223372036854775807) := by
  have ga := inK_i64 ha; have gb := inK_i64 hb
  have h := eq_of_beq h
  rw [decide_eq_decide] at h
  show (decide (IntKind.i64.wrap (a + b) < 0) == decide (a < 0)) = _
  rw [w_i64, Bool.eq_iff_iff, beq_iff_eq, decide_eq_decide, decide_eq_true_eq]
  omega
theorem rplus_diff {a b : Int} (ha : inK .i64 a = true) (hb : inK .i64 b = true) (h : (decide (a < 0) == decide (b < 0)) = false) :
    true = decide (-9223372036854775808 ≤ a + b ∧ a + b ≤ 9223372036854775807) := by
  have ga := inK_i64 ha; have gb := inK_i64 hb
  have h := beq_eq_false_iff_ne.1 h
  rw [Ne, decide_eq_decide] at h
  exact (decide_eq_true (by omega)).symm
theorem rminus_same {a b : Int} (ha : inK .i64 a = true) (hb : inK .i64 b = true) (h : (decide (a < 0) == decide (b < 0)) = true) :
    true = decide (-9223372036854775808 ≤ a - b ∧ a - b ≤ 9223372036854775807) := by
  have ga := inK_i64 ha; have gb := inK_i64 hb
  have h := eq_of_beq h
  rw [decide_eq_decide] at h
  exact (decide_eq_true (by omega)).symm
theorem rminus_diff {a b : Int} (ha : inK .i64 a = true) (hb : inK .i64 b = true) (h : (decide (a < 0) == decide (b < 0)) = false) :
    (decide (opI .sub .i64 a b < 0) == decide (a < 0)) = decide (-9223372036854775808 ≤ a - b ∧ a - b ≤ 9223372036854775807) := by
  have ga := inK_i64 ha; have gb := inK_i64 hb
  have h := beq_eq_false_iff_ne.1 h
  rw [Ne, decide_eq_decide] at h
  show (decide (IntKind.i64.wrap (a - b) < 0) == decide (a < 0)) = _
  rw [w_i64, Bool.eq_iff_iff, beq_iff_eq, decide_eq_decide, decide_eq_true_eq]
  omega
theorem rf0 {v : Int} (h0 : 0 ≤ v) (h : v ≤ 0) : 0 = bfill v := by
  obtain rfl : v = 0 := by omega
  rfl
theorem rf {v lo hi : Int} (k : Nat) (e1 : lo = 2 ^ k) (e2 : hi = 2 ^ (k + 1) - 1) (h1 : lo ≤ v) (h2 : v ≤ hi) : hi = bfill v := by
  have p : (0 : Int) < 2 ^ k := Int.pow_pos (by omega)
  have q1 : ((2 ^ k : Nat) : Int) = 2 ^ k := by simp
  have q2 : ((2 ^ (k + 1) : Nat) : Int) = 2 ^ (k + 1) := by simp
  unfold bfill
  rw [blen_eq (n := v.toNat) (c := k) (by omega) (by omega), e2]
theorem rem64 {b : Rg} (hb : b.ok) (h : bones b = true) : opI .rem .u64 (bsingle b) 64 = ((bby b : Nat) : Int) ∧ bby b < 64 := by
  have wb := Rg.wf_of hb
  have e : bsingle b = b.ul := by unfold bsingle; rw [h]; simp
  show (bsingle b).tmod 64 = _ ∧ _
  rw [e, Int.tmod_eq_emod_of_nonneg wb.1.1]
  have := wb.1
  unfold bby
  omega
theorem shl_back {x : Int} {k : Nat} (x0 : 0 ≤ x) (x1 : x ≤ 18446744073709551615) (hk : k < 64) : (opI .shr .u64 (opI .shl .u64 x (k : Int)) (k : Int) == x) = decide (blenN x.toNat + k ≤ 64) := by
  have hp : (0 : Int) < 2 ^ k := Int.pow_pos (by omega)
  have e : opI .shl .u64 x (k : Int) = x * 2 ^ k % 18446744073709551616 := by
    show IntKind.u64.wrap (x * 2 ^ min (k : Int).toNat 64) = _
    rw [Int.toNat_natCast, Nat.min_eq_left (by omega), w_u64]
  have b0 := Int.emod_nonneg (x * 2 ^ k) (show (18446744073709551616 : Int) ≠ 0 by omega)
  rw [e, opI_shr b0 hk, Bool.eq_iff_iff, beq_iff_eq, decide_eq_true_eq]
  constructor
  · intro h
    have h1 : x * 2 ^ k ≤ x * 2 ^ k % 18446744073709551616 := by
      have := Int.ediv_mul_le (x * 2 ^ k % 18446744073709551616) (b := 2 ^ k) (by omega)
      rw [h] at this
      exact this
    have h2 := Int.emod_lt_of_pos (x * 2 ^ k) (show (0 : Int) < 18446744073709551616 by omega)
    have h3 : x * 2 ^ k < 18446744073709551616 := by omega
    have h4 : x.toNat < 2 ^ (64 - k) := by
      have q : (18446744073709551616 : Int) = 2 ^ (64 - k) * 2 ^ k := by
        rw [← Int.pow_add, show 64 - k + k = 64 by omega]; rfl
      rw [q] at h3
      have h5 := Int.lt_of_mul_lt_mul_right h3 (by omega)
      have q2 : ((2 ^ (64 - k) : Nat) : Int) = 2 ^ (64 - k) := by simp
      omega
    have := blen_le h4
    omega
  · intro h
    have h1 := shl_bd x0 (Int.le_refl x) h
    rw [Int.emod_eq_of_lt h1.1 (by omega), Int.mul_ediv_cancel _ (by omega)]
section
variable {op : Int} {a b : Rg} (ha : a.ok) (hb : b.ok) (ma : bmay a = true) (mb : bmay b = true)
include ha hb
theorem ru_s1 (h : decide (opI .add .u64 a.uh b.uh < a.uh) = false) : opI .add .u64 a.ul b.ul = (xsum false a b).ul ∧ opI .add .u64 a.uh b.uh = (xsum false a b).uh := by
  have h := of_decide_eq_false h
  have wa := (Rg.wf_of ha).2.1; have wb := (Rg.wf_of hb).2.1
  have e : opI .add .u64 a.uh b.uh = (a.uh + b.uh) % 18446744073709551616 := by show IntKind.u64.wrap (a.uh + b.uh) = _; rw [w_u64]
  rw [e] at h ⊢
  have hc : a.uh + b.uh ≤ 18446744073709551615 := by omega
  simp only [xsum]
  rw [if_pos hc, if_pos hc]
  exact ⟨rfl, by omega⟩
theorem ru_s0 (h : decide (opI .add .u64 a.uh b.uh < a.uh) = true) : ball.ul = (xsum false a b).ul ∧ ball.uh = (xsum false a b).uh := by
  have h := of_decide_eq_true h
  have wa := (Rg.wf_of ha).2.1; have wb := (Rg.wf_of hb).2.1
  have e : opI .add .u64 a.uh b.uh = (a.uh + b.uh) % 18446744073709551616 := by show IntKind.u64.wrap (a.uh + b.uh) = _; rw [w_u64]
  rw [e] at h
  have hc : ¬ a.uh + b.uh ≤ 18446744073709551615 := by omega
  simp only [xsum]
  rw [if_neg hc, if_neg hc]
  exact ⟨rfl, rfl⟩
include ma mb
theorem rd_0 {x y z w : Int} (h : (op == 0) = true) (h1 : x = (xsum false a b).ul ∧ y = (xsum false a b).uh) (h2 : z = (xsum false a b).sl ∧ w = (xsum false a b).sh) : bnar ⟨x, y, z, w⟩ = bdo op a b := bdo_of ma mb (by
  rw [h1.1, h1.2, h2.1, h2.2, eqz h]
  exact (xsum_f ha hb ma mb).trans (by simp [bdo0]))
theorem rd_1 {x y z w : Int} (h : (op == 1) = true) (h1 : x = (xsum true a b).ul ∧ y = (xsum true a b).uh) (h2 : z = (xsum true a b).sl ∧ w = (xsum true a b).sh) : bnar ⟨x, y, z, w⟩ = bdo op a b := bdo_of ma mb (by
  rw [h1.1, h1.2, h2.1, h2.2, eqz h]
  exact (xsum_t ha hb ma mb).trans (by simp [bdo0]))
theorem rd_4 (h : (op == 4) = true) : bnar ⟨max a.ul b.ul, bfill (max a.uh b.uh), ball.sl, ball.sh⟩ = bdo op a b := bdo_of ma mb (by rw [eqz h]; simp [bdo0, bu, ball])
theorem rd_10 (h : (op == 10) = true) : bnar ⟨ball.ul, bfill (max a.uh b.uh), ball.sl, ball.sh⟩ = bdo op a b := bdo_of ma mb (by rw [eqz h]; simp [bdo0, bu, ball])
theorem rd_7 (h : (op == 7) = true) (hc : bones b = true) : bnar ⟨opI .shr .u64 a.ul (opI .rem .u64 (bsingle b) 64), opI .shr .u64 a.uh (opI .rem .u64 (bsingle b) 64), ball.sl, ball.sh⟩ = bdo op a b := bdo_of ma mb (by
  have wa := Rg.wf_of ha
  obtain ⟨e, e2⟩ := rem64 hb hc
  rw [eqz h, e, opI_shr wa.1.1 e2, opI_shr wa.2.1.1 e2]; simp [bdo0, bu, ball, hc])
theorem rd_6 (h : (op == 6) = true) (hc : bones b = true) (hl : (opI .shr .u64 (opI .shl .u64 a.uh (opI .rem .u64 (bsingle b) 64)) (opI .rem .u64 (bsingle b) 64) == a.uh) = true) : bnar ⟨opI .shl .u64 a.ul (opI .rem .u64 (bsingle b) 64), opI .shl .u64 a.uh (opI .rem .u64 (bsingle b) 64), ball.sl, ball.sh⟩ = bdo op a b := bdo_of ma mb (by
  have wa := Rg.wf_of ha
  obtain ⟨e, e2⟩ := rem64 hb hc
  rw [e, shl_back wa.2.1.1 wa.2.1.2 e2] at hl
  have hl' := of_decide_eq_true hl
  rw [bmay_iff] at ma
  obtain ⟨h1, h2, h3⟩ := shl_bd wa.1.1 ma.1 hl'
  rw [eqz h, e, opI_shl e2 h1 (by omega), opI_shl e2 (by omega) h3]; simp [bdo0, bu, ball, hc, hl'])
theorem rd_6n (h : (op == 6) = true) (hc : bones b = true) (hl : (opI .shr .u64 (opI .shl .u64 a.uh (opI .rem .u64 (bsingle b) 64)) (opI .rem .u64 (bsingle b) 64) == a.uh) = false) : bnar ball = bdo op a b := bdo_of ma mb (by
  have wa := Rg.wf_of ha
  obtain ⟨e, e2⟩ := rem64 hb hc
  rw [e, shl_back wa.2.1.1 wa.2.1.2 e2] at hl
  have hl' := of_decide_eq_false hl
  rw [eqz h]; simp [bdo0, hc, hl'])
end
section
variable {a b : Rg}
theorem bsv (h : bones b = true) : bsingle b = b.ul := by unfold bsingle; rw [h]; simp
theorem gn_1 (h : bones b = true) (hn : (a.ul = bsingle b ∧ a.uh = bsingle b) ∨ (a.sl = IntKind.i64.wrap (bsingle b) ∧ a.sh = IntKind.i64.wrap (bsingle b))) : bcan 1 a b = false := by
  rw [bsv h, ← s64_wrap] at hn
  unfold bcan
  rw [if_pos rfl, if_pos h]
  rcases hn with hn | hn
  · rw [decide_eq_true hn]; rfl
  · rw [decide_eq_true hn]; simp
theorem gc_1 (h : bones b = true) (h1 : ¬ (a.ul = bsingle b ∧ a.uh = bsingle b)) (h2 : ¬ (a.sl = IntKind.i64.wrap (bsingle b) ∧ a.sh = IntKind.i64.wrap (bsingle b))) : bcan 1 a b = true := by
  rw [bsv h] at h1
  rw [bsv h, ← s64_wrap] at h2
  unfold bcan
  rw [if_pos rfl, if_pos h, decide_eq_false h1, decide_eq_false h2]
  rfl
theorem gr_1 {x y z w : Int} (h : bones b = true) (h1 : x = if a.ul = bsingle b then a.ul + 1 else a.ul) (h2 : y = if a.ul ≠ bsingle b ∧ a.uh = bsingle b then a.uh - 1 else a.uh)
    (h3 : z = if a.sl = IntKind.i64.wrap (bsingle b) then a.sl + 1 else a.sl) (h4 : w = if a.sl ≠ IntKind.i64.wrap (bsingle b) ∧ a.sh = IntKind.i64.wrap (bsingle b) then a.sh - 1 else a.sh) : (⟨x, y, z, w⟩ : Rg) = brng 1 a b := by
  rw [h1, h2, h3, h4]
  unfold brng
  rw [if_pos rfl, if_pos h, bsv h, ← s64_wrap]
end
theorem add_u {x : Int} : opI .add .u64 x 1 = (x + 1) % 18446744073709551616 := by show IntKind.u64.wrap (x + 1) = _; rw [w_u64]
theorem sub_u {x : Int} : opI .sub .u64 x 1 = (x - 1) % 18446744073709551616 := by show IntKind.u64.wrap (x - 1) = _; rw [w_u64]
theorem add_i {x : Int} : opI .add .i64 x 1 = (x + 1 + 9223372036854775808) % 18446744073709551616 - 9223372036854775808 := by show IntKind.i64.wrap (x + 1) = _; rw [w_i64]
theorem sub_i {x : Int} : opI .sub .i64 x 1 = (x - 1 + 9223372036854775808) % 18446744073709551616 - 9223372036854775808 := by show IntKind.i64.wrap (x - 1) = _; rw [w_i64]
end Go.Proofs.YtcfnglbcgkappaaGreat
