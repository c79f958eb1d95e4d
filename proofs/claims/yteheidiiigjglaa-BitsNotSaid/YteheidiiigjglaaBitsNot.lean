/- The walk of the law BitsNot. -/
import Derived.Test.YteheidiiigjglaaBitsW
import Derived.Test.YteheidiiigjglaaBitsH
namespace Go.Proofs.Yteheidiiigjglaa
open Go.RowKit

theorem zhold_not (cc w a b : Int) (h0 : 0 ≤ cc) (h1 : cc < 10) : zhold (znot cc) w a b = !zhold cc w a b ∧ 0 ≤ znot cc ∧ znot cc ≤ 9 ∧ znot (znot cc) = cc ∧ znotOk (znot cc) = true ∧ znotOk cc = true := by
  have hc : cc = 0 ∨ cc = 1 ∨ cc = 2 ∨ cc = 3 ∨ cc = 4 ∨ cc = 5 ∨ cc = 6 ∨ cc = 7 ∨ cc = 8 ∨ cc = 9 := by omega
  rcases hc with rfl | rfl | rfl | rfl | rfl | rfl | rfl | rfl | rfl | rfl
  all_goals
    refine ⟨?_, by decide, by decide, by decide, by decide, by decide⟩
    simp [zhold, znot, bne]
    try (rw [Bool.eq_iff_iff]; simp)
  all_goals first | done | omega
theorem zhold_turn (w a b : Int) : zhold 2 w b a = zhold 4 w a b ∧ zhold 6 w b a = zhold 8 w a b := by
  simp [zhold]

set_option maxRecDepth 100000 in
set_option maxHeartbeats 2000000 in
theorem law_BitsNot (a0 : Int) (w0 : (Lit.int .i8 a0).wf = true) (a1 : Int) (w1 : (Lit.int .i8 a1).wf = true) (a2 : Int) (w2 : (Lit.int .u64 a2).wf = true) (a3 : Int) (w3 : (Lit.int .u64 a3).wf = true) (W : World) :
    Calls Try.prog 12 #[.int .i8 a0, .int .i8 a1, .int .u64 a2, .int .u64 a3] W fun e W' => e = .returned (.bool true) ∧ Below W.heap.size W W' := by
  obtain ⟨h0, h1⟩ := wf_u64 w2
  obtain ⟨h2, h3⟩ := wf_u64 w3
  clear w0 w1 w2 w3
  have hx := Ext.refl W
  cases hbad : (decide (a0 < 0) || decide (10 < a0) || !zlong a1)
  · simp at hbad
    obtain ⟨⟨g0, g1⟩, hw⟩ := hbad
    by_cases g2 : a0 = 10
    · subst g2
      have e1 : znotOk 10 = false := by decide
      have e2 : zhold 10 a1 a2 a3 = (bits .and .u64 (zcut a2 a1) (zcut a3 a1) != 0) := by simp [zhold]
      go_enter Try.func12, Try.ntmps12
      go_wp2_with (first
        | (go_at_call 36; refine (holds_any _ _ _ _ _ (by omega) (by omega) (by omega) (by omega) (by omega) (by omega) hw).mono ?_; rintro e w' ⟨rfl, rfl⟩)
        | (go_at_call 37; refine (not_any _ _).mono ?_; rintro e w' ⟨rfl, rfl⟩)
        | (go_at_call 33; refine (cut_any _ _ _ (by omega) (by omega)).mono ?_; rintro e w' ⟨rfl, rfl⟩)
        | (go_at_call 32; refine (bwakes_any W _ (by assumption)).mono ?_; rintro e w' ⟨rfl, hx'⟩)
        | fail)
      go_ret
      exact ⟨rfl, by assumption⟩
    · obtain ⟨n1, n2, n3, n4, n5, n6⟩ := zhold_not a0 a1 a2 a3 g0 (by omega)
      obtain ⟨t1, t2⟩ := zhold_turn a1 a2 a3
      go_enter Try.func12, Try.ntmps12
      go_wp2_with (first
        | (go_at_call 36; refine (holds_any _ _ _ _ _ (by omega) (by omega) (by omega) (by omega) (by omega) (by omega) hw).mono ?_; rintro e w' ⟨rfl, rfl⟩)
        | (go_at_call 37; refine (not_any _ _).mono ?_; rintro e w' ⟨rfl, rfl⟩)
        | (go_at_call 33; refine (cut_any _ _ _ (by omega) (by omega)).mono ?_; rintro e w' ⟨rfl, rfl⟩)
        | (go_at_call 32; refine (bwakes_any W _ (by assumption)).mono ?_; rintro e w' ⟨rfl, hx'⟩)
        | fail)
      go_ret
      exact ⟨rfl, by assumption⟩
  · go_enter Try.func12, Try.ntmps12
    go_wp2_with (first
      | (go_at_call 36; refine (holds_bad _ _ _ _ _ hbad).mono ?_; rintro e w' ⟨rfl, rfl⟩)
      | (go_at_call 37; refine (not_any _ _).mono ?_; rintro e w' ⟨rfl, rfl⟩)
      | (go_at_call 32; refine (bwakes_any W _ (by assumption)).mono ?_; rintro e w' ⟨rfl, hx'⟩)
      | fail)
    go_ret
    exact ⟨rfl, by assumption⟩
end Go.Proofs.Yteheidiiigjglaa
