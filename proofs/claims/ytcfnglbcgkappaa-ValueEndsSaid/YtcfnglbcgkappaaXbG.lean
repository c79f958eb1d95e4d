/- What each condition of Given of package bounds comes to, as its run has it: plain laws. -/
import Derived.Test.YtcfnglbcgkappaaXbL
set_option linter.unusedSectionVars false
set_option linter.unusedVariables false
set_option linter.unusedSimpArgs false
namespace Go.Proofs.Ytcfnglbcgkappaa
open Go Go.RowKit
section
variable {a b : Rg} (ha : a.ok) (hb : b.ok)
include ha hb
theorem gvn_2 (h : (!(((2 : Int) == 2) && (b.ul == 18446744073709551615))) = false) : bcan 2 a b = false := by
  have h2 : b.ul = 18446744073709551615 := by simpa using h
  simp [bcan, h2]
theorem gvc_2 (h : (!(((2 : Int) == 2) && (b.ul == 18446744073709551615))) = true) : bcan 2 a b = true := by
  have h2 : b.ul ≠ 18446744073709551615 := by simpa using h
  simp [bcan, h2]
theorem gvr_2 (h : (!(((2 : Int) == 2) && (b.ul == 18446744073709551615))) = true) : (⟨if ((2 : Int) == 2) = true ∧ (b.ul == 18446744073709551615) = true then a.ul else max a.ul (if ((2 : Int) == 2) = true then IntKind.u64.wrap (b.ul + 1) else b.ul), a.uh, a.sl, a.sh⟩ : Rg) = brng 2 a b := by
  have h2 : b.ul ≠ 18446744073709551615 := by simpa using h
  have wa := Rg.wf_of ha
  have wb := Rg.wf_of hb
  obtain ⟨⟨a0, a1⟩, ⟨a2, a3⟩, ⟨a4, a5⟩, a6, a7⟩ := wa
  obtain ⟨⟨b0, b1⟩, ⟨b2, b3⟩, ⟨b4, b5⟩, b6, b7⟩ := wb
  have h3 : IntKind.u64.wrap (b.ul + 1) = b.ul + 1 := by rw [w_u64]; omega
  simp [brng, Rg.ext_iff, h2, h3]
theorem gvc_3 (h : (!(((3 : Int) == 2) && (b.ul == 18446744073709551615))) = true) : bcan 3 a b = true := by simp [bcan]
theorem gvr_3 (h : (!(((3 : Int) == 2) && (b.ul == 18446744073709551615))) = true) : (⟨if ((3 : Int) == 2) = true ∧ (b.ul == 18446744073709551615) = true then a.ul else max a.ul (if ((3 : Int) == 2) = true then IntKind.u64.wrap (b.ul + 1) else b.ul), a.uh, a.sl, a.sh⟩ : Rg) = brng 3 a b := by simp [brng, Rg.ext_iff]
theorem gvn_4 (h : (!(((4 : Int) == 4) && (b.uh == 0))) = false) : bcan 4 a b = false := by
  have h2 : b.uh = 0 := by simpa using h
  simp [bcan, h2]
theorem gvc_4 (h : (!(((4 : Int) == 4) && (b.uh == 0))) = true) : bcan 4 a b = true := by
  have h2 : b.uh ≠ 0 := by simpa using h
  simp [bcan, h2]
theorem gvr_4 (h : (!(((4 : Int) == 4) && (b.uh == 0))) = true) : (⟨a.ul, if ((4 : Int) == 4) = true ∧ (b.uh == 0) = true then a.uh else min a.uh (if ((4 : Int) == 4) = true then IntKind.u64.wrap (b.uh - 1) else b.uh), a.sl, a.sh⟩ : Rg) = brng 4 a b := by
  have h2 : b.uh ≠ 0 := by simpa using h
  have wa := Rg.wf_of ha
  have wb := Rg.wf_of hb
  obtain ⟨⟨a0, a1⟩, ⟨a2, a3⟩, ⟨a4, a5⟩, a6, a7⟩ := wa
  obtain ⟨⟨b0, b1⟩, ⟨b2, b3⟩, ⟨b4, b5⟩, b6, b7⟩ := wb
  have h3 : IntKind.u64.wrap (b.uh - 1) = b.uh - 1 := by rw [w_u64]; omega
  simp [brng, Rg.ext_iff, h2, h3]
theorem gvc_5 (h : (!(((5 : Int) == 4) && (b.uh == 0))) = true) : bcan 5 a b = true := by simp [bcan]
theorem gvr_5 (h : (!(((5 : Int) == 4) && (b.uh == 0))) = true) : (⟨a.ul, if ((5 : Int) == 4) = true ∧ (b.uh == 0) = true then a.uh else min a.uh (if ((5 : Int) == 4) = true then IntKind.u64.wrap (b.uh - 1) else b.uh), a.sl, a.sh⟩ : Rg) = brng 5 a b := by simp [brng, Rg.ext_iff]
theorem gvn_6 (h : (!(((6 : Int) == 6) && (b.sl == 9223372036854775807))) = false) : bcan 6 a b = false := by
  have h2 : b.sl = 9223372036854775807 := by simpa using h
  simp [bcan, h2]
theorem gvc_6 (h : (!(((6 : Int) == 6) && (b.sl == 9223372036854775807))) = true) : bcan 6 a b = true := by
  have h2 : b.sl ≠ 9223372036854775807 := by simpa using h
  simp [bcan, h2]
theorem gvr_6 (h : (!(((6 : Int) == 6) && (b.sl == 9223372036854775807))) = true) : (⟨a.ul, a.uh, if ((6 : Int) == 6) = true ∧ (b.sl == 9223372036854775807) = true then a.sl else max a.sl (if ((6 : Int) == 6) = true then IntKind.i64.wrap (b.sl + 1) else b.sl), a.sh⟩ : Rg) = brng 6 a b := by
  have h2 : b.sl ≠ 9223372036854775807 := by simpa using h
  have wa := Rg.wf_of ha
  have wb := Rg.wf_of hb
  obtain ⟨⟨a0, a1⟩, ⟨a2, a3⟩, ⟨a4, a5⟩, a6, a7⟩ := wa
  obtain ⟨⟨b0, b1⟩, ⟨b2, b3⟩, ⟨b4, b5⟩, b6, b7⟩ := wb
  have h3 : IntKind.i64.wrap (b.sl + 1) = b.sl + 1 := by rw [w_i64]; omega
  simp [brng, Rg.ext_iff, h2, h3]
theorem gvc_7 (h : (!(((7 : Int) == 6) && (b.sl == 9223372036854775807))) = true) : bcan 7 a b = true := by simp [bcan]
theorem gvr_7 (h : (!(((7 : Int) == 6) && (b.sl == 9223372036854775807))) = true) : (⟨a.ul, a.uh, if ((7 : Int) == 6) = true ∧ (b.sl == 9223372036854775807) = true then a.sl else max a.sl (if ((7 : Int) == 6) = true then IntKind.i64.wrap (b.sl + 1) else b.sl), a.sh⟩ : Rg) = brng 7 a b := by simp [brng, Rg.ext_iff]
theorem gvn_8 (h : (!(((8 : Int) == 8) && (b.sh == (-9223372036854775808)))) = false) : bcan 8 a b = false := by
  have h2 : b.sh = (-9223372036854775808) := by simpa using h
  simp [bcan, h2]
theorem gvc_8 (h : (!(((8 : Int) == 8) && (b.sh == (-9223372036854775808)))) = true) : bcan 8 a b = true := by
  have h2 : b.sh ≠ (-9223372036854775808) := by simpa using h
  simp [bcan, h2]
theorem gvr_8 (h : (!(((8 : Int) == 8) && (b.sh == (-9223372036854775808)))) = true) : (⟨a.ul, a.uh, a.sl, if ((8 : Int) == 8) = true ∧ (b.sh == (-9223372036854775808)) = true then a.sh else min a.sh (if ((8 : Int) == 8) = true then IntKind.i64.wrap (b.sh - 1) else b.sh)⟩ : Rg) = brng 8 a b := by
  have h2 : b.sh ≠ (-9223372036854775808) := by simpa using h
  have wa := Rg.wf_of ha
  have wb := Rg.wf_of hb
  obtain ⟨⟨a0, a1⟩, ⟨a2, a3⟩, ⟨a4, a5⟩, a6, a7⟩ := wa
  obtain ⟨⟨b0, b1⟩, ⟨b2, b3⟩, ⟨b4, b5⟩, b6, b7⟩ := wb
  have h3 : IntKind.i64.wrap (b.sh - 1) = b.sh - 1 := by rw [w_i64]; omega
  simp [brng, Rg.ext_iff, h2, h3]
theorem gvc_9 (h : (!(((9 : Int) == 8) && (b.sh == (-9223372036854775808)))) = true) : bcan 9 a b = true := by simp [bcan]
theorem gvr_9 (h : (!(((9 : Int) == 8) && (b.sh == (-9223372036854775808)))) = true) : (⟨a.ul, a.uh, a.sl, if ((9 : Int) == 8) = true ∧ (b.sh == (-9223372036854775808)) = true then a.sh else min a.sh (if ((9 : Int) == 8) = true then IntKind.i64.wrap (b.sh - 1) else b.sh)⟩ : Rg) = brng 9 a b := by simp [brng, Rg.ext_iff]
theorem gvc_10 : bcan 10 a b = true := by simp [bcan]
theorem gvr_10 : a = brng 10 a b := by simp [brng]
theorem gvc_1n (h : bones b = false) : bcan 1 a b = true := by simp [bcan, h]
theorem gvr_1n (h : bones b = false) : a = brng 1 a b := by simp [brng, h]
theorem gvn_1 (h : bones b = true) (hu : (!((a.ul == bsingle b) && (a.uh == bsingle b))) = false ∨ (!((a.sl == IntKind.i64.wrap (bsingle b)) && (a.sh == IntKind.i64.wrap (bsingle b)))) = false) : bcan 1 a b = false := by
  have hs : bsingle b = b.ul := by unfold bsingle; rw [h]; simp
  have ht : IntKind.i64.wrap b.ul = s64 b.ul := (s64_wrap _).symm
  rw [hs, ht] at hu
  simp only [bcan, h, if_true]
  rcases hu with hu | hu
  · simp at hu; simp [hu]
  · simp at hu; simp [hu]
theorem gvc_1 (h : bones b = true) (hu : (!((a.ul == bsingle b) && (a.uh == bsingle b))) = true) (hv : (!((a.sl == IntKind.i64.wrap (bsingle b)) && (a.sh == IntKind.i64.wrap (bsingle b)))) = true) : bcan 1 a b = true := by
  have hs : bsingle b = b.ul := by unfold bsingle; rw [h]; simp
  have ht : IntKind.i64.wrap b.ul = s64 b.ul := (s64_wrap _).symm
  rw [hs] at hu
  rw [hs, ht] at hv
  simp only [bcan, h, if_true]
  simp at hu hv ⊢
  exact ⟨hu, hv⟩
theorem gvr_1 (ma : bmay a = true) (h : bones b = true) (hu : (!((a.ul == bsingle b) && (a.uh == bsingle b))) = true) (hv : (!((a.sl == IntKind.i64.wrap (bsingle b)) && (a.sh == IntKind.i64.wrap (bsingle b)))) = true) : (⟨if (a.ul == bsingle b) = true ∧ (a.uh == bsingle b) = false then IntKind.u64.wrap (a.ul + 1) else a.ul, if (a.ul == bsingle b) = false ∧ (a.uh == bsingle b) = true then IntKind.u64.wrap (a.uh - 1) else a.uh, if (a.sl == IntKind.i64.wrap (bsingle b)) = true ∧ (a.sh == IntKind.i64.wrap (bsingle b)) = false then IntKind.i64.wrap (a.sl + 1) else a.sl, if (a.sl == IntKind.i64.wrap (bsingle b)) = false ∧ (a.sh == IntKind.i64.wrap (bsingle b)) = true then IntKind.i64.wrap (a.sh - 1) else a.sh⟩ : Rg) = brng 1 a b := by
  have hs : bsingle b = b.ul := by unfold bsingle; rw [h]; simp
  have ht : IntKind.i64.wrap b.ul = s64 b.ul := (s64_wrap _).symm
  rw [hs] at hu
  rw [hs, ht] at hv
  rw [hs, ht]
  have wa := Rg.wf_of ha
  have wb := Rg.wf_of hb
  obtain ⟨⟨a0, a1⟩, ⟨a2, a3⟩, ⟨a4, a5⟩, a6, a7⟩ := wa
  obtain ⟨⟨b0, b1⟩, ⟨b2, b3⟩, ⟨b4, b5⟩, b6, b7⟩ := wb
  have sb := s64_bd b.ul
  rw [bmay_iff] at ma
  simp only [brng, h, if_true, Rg.ext_iff]
  generalize s64 b.ul = t at *
  simp only [Bool.not_eq_true', Bool.and_eq_false_iff, beq_eq_false_iff_ne, ne_eq] at hu hv
  simp only [beq_iff_eq, beq_eq_false_iff_ne, ne_eq, w_u64, w_i64]
  refine ⟨?_, ?_, ?_, ?_⟩ <;> (split <;> (try split) <;> omega)
end
end Go.Proofs.Ytcfnglbcgkappaa
