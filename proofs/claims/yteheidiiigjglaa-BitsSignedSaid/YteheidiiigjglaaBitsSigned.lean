/- The walk of the law BitsSigned. -/
import Derived.Test.YteheidiiigjglaaBitsW
import Derived.Test.YteheidiiigjglaaBitsH
import Derived.Deep.RegionHeld3
namespace Go.Proofs.Yteheidiiigjglaa
open Go.RowKit

theorem sign_cut (v w : Int) (hw : zwidth w = true) (h0 : 0 ≤ v) (h1 : v ≤ 18446744073709551615) : zcut (zsign v w) w = zcut v w ∧ zsign (zcut v w) w = zsign v w := by
  simp [zwidth] at hw
  rcases hw with ((rfl | rfl) | rfl) | rfl
  all_goals
    simp [zcut, zsign, zsgn]
  all_goals split <;> omega
theorem sign_inj (a b w : Int) (hw : zlong w = true) (h0 : 0 ≤ a) (h1 : a ≤ 18446744073709551615) (h2 : 0 ≤ b) (h3 : b ≤ 18446744073709551615) :
    (zcut a w == zcut b w) = (wrap64 (zsign a w) == wrap64 (zsign b w)) := by
  rcases zlong_cases hw with rfl | rfl
  · simp only [zcut_32, zsign, zsgn]; simp only [w_64]; rw [Bool.eq_iff_iff]; simp only [beq_iff_eq]; simp; split <;> split <;> omega
  · simp only [zcut_64, zsign]; simp only [w_64]; rw [Bool.eq_iff_iff]; simp only [beq_iff_eq]; simp; omega
theorem sign_small (v : Int) (h0 : 0 ≤ v) : (-128 ≤ wrap64 (zsign v 8) ∧ wrap64 (zsign v 8) < 128) ∧ (-32768 ≤ wrap64 (zsign v 16) ∧ wrap64 (zsign v 16) < 32768) := by
  simp only [zsign, zsgn]; simp only [w_64]; simp
  constructor <;> split <;> omega
theorem hold_slt (a b w : Int) (hw : zlong w = true) (h0 : 0 ≤ a) (h1 : a ≤ 18446744073709551615) (h2 : 0 ≤ b) (h3 : b ≤ 18446744073709551615) :
    zhold 8 w a b = decide (wrap64 (zsign a w) < wrap64 (zsign b w)) := by
  have hz : zwidth w = true := by rcases zlong_cases hw with rfl | rfl <;> decide
  have ea : zs a w = wrap64 (zsign a w) := by unfold zs; rw [(sign_cut a w hz h0 h1).2]
  have eb : zs b w = wrap64 (zsign b w) := by unfold zs; rw [(sign_cut b w hz h2 h3).2]
  have : zhold 8 w a b = decide (zs a w < zs b w) := by simp [zhold]
  rw [this, ea, eb]

set_option maxRecDepth 100000 in
set_option maxHeartbeats 2000000 in
theorem signed_long (a0 a1 a2 : Int) (h0 : 0 ≤ a1) (h1 : a1 ≤ 18446744073709551615) (h2 : 0 ≤ a2) (h3 : a2 ≤ 18446744073709551615) (hw : zlong a0 = true) (W : World) :
    Calls Try.prog 13 #[.int .i8 a0, .int .u64 a1, .int .u64 a2] W fun e W' => e = .returned (.bool true) ∧ Below W.heap.size W W' := by
  have hx := Ext.refl W
  have hz : zwidth a0 = true := by rcases zlong_cases hw with rfl | rfl <;> decide
  have hl : 32 ≤ a0 := by rcases zlong_cases hw with rfl | rfl <;> decide
  obtain ⟨c1, c2⟩ := zcut_bd a1 a0 h0 h1
  obtain ⟨s1, s2⟩ := zsign_bd a1 a0 h0 h1
  obtain ⟨e1, e2⟩ := sign_cut a1 a0 hz h0 h1
  have e3 := hold_slt a1 a2 a0 hw h0 h1 h2 h3
  have e4 : zhold 0 a0 a1 a2 = (wrap64 (zsign a1 a0) == wrap64 (zsign a2 a0)) := (by simp [zhold] : zhold 0 a0 a1 a2 = (zcut a1 a0 == zcut a2 a0)).trans (sign_inj a1 a2 a0 hw h0 h1 h2 h3)
  go_enter Try.func13, Try.ntmps13
  go_wp2_with (first
    | (go_at_call 38; refine (width_any _ _).mono ?_; rintro e w' ⟨rfl, rfl⟩)
    | (go_at_call 36; refine (holds_any _ _ _ _ _ (by omega) (by omega) (by omega) (by omega) (by omega) (by omega) hw).mono ?_; rintro e w' ⟨rfl, rfl⟩)
    | (go_at_call 33; refine (cut_any _ _ _ (by omega) (by omega)).mono ?_; rintro e w' ⟨rfl, rfl⟩)
    | (go_at_call 39; refine (sign_any _ _ _ (by omega) (by omega)).mono ?_; rintro e w' ⟨rfl, rfl⟩)
    | (go_at_call 32; refine (bwakes_any W _ (by assumption)).mono ?_; rintro e w' ⟨rfl, hx'⟩)
    | fail)
  go_ret
  exact ⟨rfl, by assumption⟩

set_option maxRecDepth 100000 in
set_option maxHeartbeats 2000000 in
theorem signed_none (a0 a1 a2 : Int) (h0 : 0 ≤ a1) (h1 : a1 ≤ 18446744073709551615) (hw : zwidth a0 = false) (W : World) :
    Calls Try.prog 13 #[.int .i8 a0, .int .u64 a1, .int .u64 a2] W fun e W' => e = .returned (.bool true) ∧ Below W.heap.size W W' := by
  have hx := Ext.refl W
  have hw' := hw
  simp [zwidth] at hw'
  have e1 : zcut a1 a0 = a1 := by simp [zcut, hw']
  have e2 : zsign a1 a0 = a1 := by simp [zsign, hw']
  clear hw'
  go_enter Try.func13, Try.ntmps13
  go_wp2_with (first
    | (go_at_call 38; refine (width_any _ _).mono ?_; rintro e w' ⟨rfl, rfl⟩)
    | (go_at_call 33; refine (cut_any _ _ _ (by omega) (by omega)).mono ?_; rintro e w' ⟨rfl, rfl⟩)
    | (go_at_call 39; refine (sign_any _ _ _ (by omega) (by omega)).mono ?_; rintro e w' ⟨rfl, rfl⟩)
    | (go_at_call 32; refine (bwakes_any W _ (by assumption)).mono ?_; rintro e w' ⟨rfl, hx'⟩)
    | fail)
  go_ret
  exact ⟨rfl, by assumption⟩

set_option maxRecDepth 100000 in
set_option maxHeartbeats 2000000 in
theorem signed_short (a0 a1 a2 : Int) (h0 : 0 ≤ a1) (h1 : a1 ≤ 18446744073709551615) (hw : a0 = 8 ∨ a0 = 16) (W : World) :
    Calls Try.prog 13 #[.int .i8 a0, .int .u64 a1, .int .u64 a2] W fun e W' => e = .returned (.bool true) ∧ Below W.heap.size W W' := by
  have hx := Ext.refl W
  have hz : zwidth a0 = true := by rcases hw with rfl | rfl <;> decide
  obtain ⟨c1, c2⟩ := zcut_bd a1 a0 h0 h1
  obtain ⟨s1, s2⟩ := zsign_bd a1 a0 h0 h1
  obtain ⟨e1, e2⟩ := sign_cut a1 a0 hz h0 h1
  obtain ⟨⟨k1, k2⟩, ⟨k3, k4⟩⟩ := sign_small a1 h0
  have q1 : IntKind.i8.wrap 7 = 7 := by decide
  have q2 : IntKind.i8.wrap 15 = 15 := by decide
  have q3 : IntKind.i64.wrap (-128) = -128 := by decide
  have q4 : IntKind.i64.wrap (-32768) = -32768 := by decide
  have q5 : IntKind.i64.wrap 128 = 128 := by decide
  have q6 : IntKind.i64.wrap 32768 = 32768 := by decide
  have q7 : IntKind.i64.wrap (zsign a1 8) = wrap64 (zsign a1 8) := IntWalk.i64_left _
  have q8 : IntKind.i64.wrap (zsign a1 16) = wrap64 (zsign a1 16) := IntWalk.i64_left _
  rcases hw with rfl | rfl
  all_goals
    go_enter Try.func13, Try.ntmps13
    go_wp2_with (first
      | (go_at_call 38; refine (width_any _ _).mono ?_; rintro e w' ⟨rfl, rfl⟩)
      | (go_at_call 33; refine (cut_any _ _ _ (by omega) (by omega)).mono ?_; rintro e w' ⟨rfl, rfl⟩)
      | (go_at_call 39; refine (sign_any _ _ _ (by omega) (by omega)).mono ?_; rintro e w' ⟨rfl, rfl⟩)
      | fail)
    go_region_held3 (fun w' => Ext W w')
      (first | assumption | (apply Ext.drew; assumption) | go_keep)
      (first
        | (go_at_call 39; refine (sign_any _ _ _ (by omega) (by omega)).mono ?_; rintro e w' ⟨rfl, rfl⟩)
        | (go_at_call 32; refine (bwakes_any W _ (by assumption)).mono ?_; rintro e w' ⟨rfl, hx'⟩))
    go_wp2_with fail
    go_ret
    exact ⟨rfl, by assumption⟩

theorem law_BitsSigned (a0 : Int) (w0 : (Lit.int .i8 a0).wf = true) (a1 : Int) (w1 : (Lit.int .u64 a1).wf = true) (a2 : Int) (w2 : (Lit.int .u64 a2).wf = true) (W : World) :
    Calls Try.prog 13 #[.int .i8 a0, .int .u64 a1, .int .u64 a2] W fun e W' => e = .returned (.bool true) ∧ Below W.heap.size W W' := by
  obtain ⟨h0, h1⟩ := wf_u64 w1
  obtain ⟨h2, h3⟩ := wf_u64 w2
  cases hl : zlong a0
  · cases hz : zwidth a0
    · exact signed_none a0 a1 a2 h0 h1 hz W
    · refine signed_short a0 a1 a2 h0 h1 ?_ W
      simp [zwidth] at hz
      simp [zlong] at hl
      omega
  · exact signed_long a0 a1 a2 h0 h1 h2 h3 hl W
end Go.Proofs.Yteheidiiigjglaa
