/- Plain laws of zdo: what the operations come to. No walk is in here. -/
import Derived.Test.YtcfnglbcgkappaaGreatBitsC
set_option linter.unusedVariables false
set_option linter.unusedSimpArgs false
namespace Go.Proofs.YtcfnglbcgkappaaGreat
open Go.RowKit

theorem wf_u64 {a : Int} (h : (Lit.int .u64 a).wf = true) : 0 ≤ a ∧ a ≤ 18446744073709551615 := by
  simpa [Lit.wf, IntKind.min, IntKind.max, IntKind.signed, IntKind.bits] using h
theorem wf_i8 {a : Int} (h : (Lit.int .i8 a).wf = true) : -128 ≤ a ∧ a ≤ 127 := by
  simpa [Lit.wf, IntKind.min, IntKind.max, IntKind.signed, IntKind.bits] using h
theorem wf_u8 {a : Int} (h : (Lit.int .u8 a).wf = true) : 0 ≤ a ∧ a ≤ 255 := by
  simpa [Lit.wf, IntKind.min, IntKind.max, IntKind.signed, IntKind.bits] using h
theorem wf_i64 {a : Int} (h : (Lit.int .i64 a).wf = true) : -9223372036854775808 ≤ a ∧ a ≤ 9223372036854775807 := by
  simpa [Lit.wf, IntKind.min, IntKind.max, IntKind.signed, IntKind.bits] using h

theorem zlong_cases {w : Int} (h : zlong w = true) : w = 32 ∨ w = 64 := by simpa [zlong] using h
theorem zcut_32 (v : Int) : zcut v 32 = v % 4294967296 := by simp [zcut]
theorem zcut_64 (v : Int) : zcut v 64 = v := by simp [zcut]
theorem zdo_bd (op w a b : Int) (h0 : 0 ≤ a) (h1 : a ≤ 18446744073709551615) (h2 : 0 ≤ b) (h3 : b ≤ 18446744073709551615) : 0 ≤ zdo op w a b ∧ zdo op w a b ≤ 18446744073709551615 := by
  obtain ⟨ha1, ha2⟩ := zcut_bd a w h0 h1
  obtain ⟨hb1, hb2⟩ := zcut_bd b w h2 h3
  obtain ⟨hz1, hz2⟩ := zop_bd op w (zcut a w) (zcut b w) (zcut b w % w) ha1 ha2 hb1 hb2
  exact zcut_bd _ _ hz1 hz2
theorem zcut_zcut (v w : Int) : zcut (zcut v w) w = zcut v w := by
  unfold zcut; split <;> (try split) <;> (try split) <;> omega
theorem zdo_zcut (op w a b : Int) : zdo op w (zcut a w) (zcut b w) = zdo op w a b := by unfold zdo; rw [zcut_zcut, zcut_zcut]
theorem zcut_zdo (op w a b : Int) : zcut (zdo op w a b) w = zdo op w a b := by unfold zdo; rw [zcut_zcut]
theorem zcut_id {w x : Int} (hw : zlong w = true) (h0 : 0 ≤ x) (h : x ≤ (if w = 32 then 4294967295 else 18446744073709551615)) : zcut x w = x := by
  rcases zlong_cases hw with rfl | rfl
  · rw [zcut_32]; simp at h; omega
  · rw [zcut_64]
theorem zcut_le' {w : Int} (hw : zlong w = true) (x : Int) (h0 : 0 ≤ x) (h1 : x ≤ 18446744073709551615) : zcut x w ≤ (if w = 32 then 4294967295 else 18446744073709551615) := by
  rcases zlong_cases hw with rfl | rfl
  · rw [zcut_32]; simp; try omega
  · rw [zcut_64]; simpa using h1

theorem undo_add (w a b : Int) (hw : zlong w = true) (h0 : 0 ≤ a) (h1 : a ≤ 18446744073709551615) (h2 : 0 ≤ b) (h3 : b ≤ 18446744073709551615) : zdo 1 w (zdo 0 w a b) b = zcut a w := by
  rcases zlong_cases hw with rfl | rfl
  · simp [zdo, zop, zcut_32]; try omega
  · simp [zdo, zop, zcut_64]; try omega
theorem undo_zero (w a b : Int) (hz : zcut b w = 0) : zdo 3 w a b = 0 ∧ zdo 9 w a b = zcut a w := by
  simp [zdo, zop, hz, zcut_zcut]
  unfold zcut; simp
theorem undo_quo (w a b : Int) (hw : zlong w = true) (h0 : 0 ≤ a) (h1 : a ≤ 18446744073709551615) (h2 : 0 ≤ b) (h3 : b ≤ 18446744073709551615) (hz : zcut b w ≠ 0) :
    zdo 0 w (zdo 2 w (zdo 3 w a b) b) (zdo 9 w a b) = zcut a w ∧ zdo 9 w a b < zcut b w := by
  have ha := zcut_le' hw a h0 h1
  have hb := zcut_le' hw b h2 h3
  obtain ⟨ha1, ha2⟩ := zcut_bd a w h0 h1
  obtain ⟨hb1, hb2⟩ := zcut_bd b w h2 h3
  have hM : (if w = 32 then (4294967295 : Int) else 18446744073709551615) ≤ 18446744073709551615 := by split <;> omega
  generalize hA : zcut a w = A at *
  generalize hB : zcut b w = B at *
  generalize hL : (if w = 32 then (4294967295 : Int) else 18446744073709551615) = L at *
  have e := Int.mul_ediv_add_emod A B
  have r1 := Int.emod_nonneg A hz
  have r2 := Int.emod_lt_of_pos A (show 0 < B by omega)
  have q1 := Int.ediv_nonneg ha1 hb1
  have q2 := Int.ediv_le_self B ha1
  have m1 := Int.mul_nonneg hb1 q1
  have q : zdo 3 w a b = A / B := by
    simp only [zdo, zop, hA, hB]; simp [hz]; exact zcut_id hw q1 (by omega)
  have r : zdo 9 w a b = A % B := by
    simp only [zdo, zop, hA, hB]; simp [hz]; exact zcut_id hw r1 (by omega)
  have m : zdo 2 w (zdo 3 w a b) b = B * (A / B) := by
    rw [q]
    simp only [zdo, zop, hB]; simp
    rw [zcut_id hw q1 (by omega), Int.mul_comm, Int.emod_eq_of_lt m1 (by omega)]; exact zcut_id hw m1 (by omega)
  refine ⟨?_, by omega⟩
  rw [m, r]
  simp only [zdo, zop]; simp
  rw [zcut_id hw m1 (by omega), zcut_id hw r1 (by omega), e, Int.emod_eq_of_lt ha1 (by omega)]
  exact zcut_id hw ha1 (by omega)
end Go.Proofs.YtcfnglbcgkappaaGreat
