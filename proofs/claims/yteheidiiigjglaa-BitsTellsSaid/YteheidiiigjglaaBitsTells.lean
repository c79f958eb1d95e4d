/- The walks of the reference's Holds and Not, and of the law BitsTells. -/
import Derived.Test.YteheidiiigjglaaBitsW
import Derived.Test.YteheidiiigjglaaBitsH
namespace Go.Proofs.Yteheidiiigjglaa
open Go.RowKit

set_option maxRecDepth 100000 in
set_option maxHeartbeats 4000000 in
theorem rholds_any (cc w1 a b : Int) (w : World) (h0 : 0 ≤ a) (h1 : a ≤ 18446744073709551615) (h2 : 0 ≤ b) (h3 : b ≤ 18446744073709551615) (h4 : 0 ≤ cc) (h5 : cc ≤ 10) (hw : zlong w1 = true) :
    Calls Try.prog 41 #[.int .i8 cc, .int .i8 w1, .int .u64 a, .int .u64 b] w fun e w' => e = .returned (.tuple #[.bool (zhold cc w1 a b), .int .i64 0]) ∧ w = w' := by
  obtain ⟨ha1, ha2⟩ := zcut_bd a w1 h0 h1
  obtain ⟨hb1, hb2⟩ := zcut_bd b w1 h2 h3
  have za : wrap64 (zsign (zcut a w1) w1) = zs a w1 := rfl
  have zb : wrap64 (zsign (zcut b w1) w1) = zs b w1 := rfl
  rcases cc_cases h4 h5 with rfl | rfl | rfl | rfl | rfl | rfl | rfl | rfl | rfl | rfl | rfl
  all_goals
    go_enter Try.func41, Try.ntmps41
    go_wp2_with (first
      | (go_at_call 58; refine (rlong_any _ _).mono ?_; rintro e w' ⟨rfl, rfl⟩)
      | (go_at_call 44; with_reducible refine (rcut_any a _ _ (by omega) (by omega)).mono ?_; rintro e w' ⟨rfl, rfl⟩)
      | (go_at_call 44; with_reducible refine (rcut_any b _ _ (by omega) (by omega)).mono ?_; rintro e w' ⟨rfl, rfl⟩)
      | (go_at_call 45; refine (rsign_any _ _ _ (by omega) (by omega)).mono ?_; rintro e w' ⟨rfl, rfl⟩)
      | fail)
    go_ret2
    refine ⟨?_, rfl⟩
    simp [zhold]
    done

set_option maxHeartbeats 1000000 in
theorem rholds_bad (op w1 a b : Int) (w : World) (hbad : (decide (op < 0) || decide (10 < op) || !zlong w1) = true) :
    Calls Try.prog 41 #[.int .i8 op, .int .i8 w1, .int .u64 a, .int .u64 b] w fun e w' => e = .returned (.tuple #[.bool false, .int .i64 2]) ∧ w = w' := by
  have hc : op < 0 ∨ (0 ≤ op ∧ 10 < op) ∨ (0 ≤ op ∧ op ≤ 10 ∧ zlong w1 = false) := by
    by_cases h1 : op < 0
    · exact .inl h1
    · by_cases h2 : 10 < op
      · exact .inr (.inl ⟨by omega, h2⟩)
      · exact .inr (.inr ⟨by omega, by omega, by simpa [h1, h2] using hbad⟩)
  clear hbad
  rcases hc with h | ⟨h, h'⟩ | ⟨h, h', hw⟩
  all_goals
    go_enter Try.func41, Try.ntmps41
    go_wp2_with (go_at_call 58; refine (rlong_any _ _).mono ?_; rintro e w' ⟨rfl, rfl⟩)
    go_ret2
    exact ⟨rfl, rfl⟩

set_option maxHeartbeats 2000000 in
theorem rnot_any (cc : Int) (w : World) :
    Calls Try.prog 42 #[.int .i8 cc] w fun e w' => e = .returned (.tuple #[.int .i8 (znot cc), .bool (znotOk cc)]) ∧ w = w' := by
  by_cases h0 : 0 ≤ cc ∧ cc < 10
  · obtain ⟨h0, h1⟩ := h0
    have hc : cc = 0 ∨ cc = 1 ∨ cc = 2 ∨ cc = 3 ∨ cc = 4 ∨ cc = 5 ∨ cc = 6 ∨ cc = 7 ∨ cc = 8 ∨ cc = 9 := by omega
    clear h0 h1
    rcases hc with rfl | rfl | rfl | rfl | rfl | rfl | rfl | rfl | rfl | rfl
    all_goals
      go_enter Try.func42, Try.ntmps42
      go_wp2
      go_ret2
      exact ⟨rfl, rfl⟩
  · have e1 : znot cc = 0 := by unfold znot; (repeat' split) <;> omega
    have e2 : znotOk cc = false := by simp [znotOk]; omega
    have H1 := hide e1
    have H2 := hide e2
    have n : (cc == 0) = false ∧ (cc == 1) = false ∧ (cc == 2) = false ∧ (cc == 3) = false ∧ (cc == 4) = false ∧ (cc == 5) = false ∧ (cc == 6) = false ∧ (cc == 7) = false ∧ (cc == 8) = false ∧ (cc == 9) = false := by
      refine ⟨?_, ?_, ?_, ?_, ?_, ?_, ?_, ?_, ?_, ?_⟩ <;> (rw [beq_eq_false_iff_ne]; omega)
    obtain ⟨n0, n1, n2, n3, n4, n5, n6, n7, n8, n9⟩ := n
    clear e1 e2 h0
    go_enter Try.func42, Try.ntmps42
    go_wp2
    go_ret2
    refine ⟨?_, rfl⟩
    rw [H1.out, H2.out]; rfl

set_option maxRecDepth 100000 in
set_option maxHeartbeats 4000000 in
theorem law_BitsTells (a0 : Int) (w0 : (Lit.int .i8 a0).wf = true) (a1 : Int) (w1 : (Lit.int .i8 a1).wf = true) (a2 : Int) (w2 : (Lit.int .i8 a2).wf = true) (a3 : Int) (w3 : (Lit.int .u64 a3).wf = true) (a4 : Int) (w4 : (Lit.int .u64 a4).wf = true) (W : World) :
    Calls Try.prog 14 #[.int .i8 a0, .int .i8 a1, .int .i8 a2, .int .u64 a3, .int .u64 a4] W fun e W' => e = .returned (.bool true) ∧ Below W.heap.size W W' := by
  obtain ⟨h0, h1⟩ := wf_u64 w3
  obtain ⟨h2, h3⟩ := wf_u64 w4
  clear w0 w1 w2 w3 w4
  have hx := Ext.refl W
  cases hd : (decide (a0 < 0) || decide (12 < a0) || !zlong a2) <;> cases hh : (decide (a1 < 0) || decide (10 < a1) || !zlong a2)
  · simp at hd hh
    obtain ⟨⟨g0, g1⟩, hw⟩ := hd
    obtain ⟨⟨g2, g3⟩, _⟩ := hh
    go_enter Try.func14, Try.ntmps14
    go_wp2_with (first
      | (go_at_call 31; refine (Calls_ext (do_any _ _ _ _ _ (by omega) (by omega) (by omega) (by omega) (by omega) (by omega) hw) (by assumption)).mono ?_; rintro e w' ⟨rfl, hx'⟩)
      | (go_at_call 40; refine (rdo_any _ _ _ _ _ (by omega) (by omega) (by omega) (by omega) (by omega) (by omega) hw).mono ?_; rintro e w' ⟨rfl, rfl⟩)
      | (go_at_call 36; refine (holds_any _ _ _ _ _ (by omega) (by omega) (by omega) (by omega) (by omega) (by omega) hw).mono ?_; rintro e w' ⟨rfl, rfl⟩)
      | (go_at_call 41; refine (rholds_any _ _ _ _ _ (by omega) (by omega) (by omega) (by omega) (by omega) (by omega) hw).mono ?_; rintro e w' ⟨rfl, rfl⟩)
      | (go_at_call 37; refine (not_any _ _).mono ?_; rintro e w' ⟨rfl, rfl⟩)
      | (go_at_call 42; refine (rnot_any _ _).mono ?_; rintro e w' ⟨rfl, rfl⟩)
      | (go_at_call 38; refine (width_any _ _).mono ?_; rintro e w' ⟨rfl, rfl⟩)
      | (go_at_call 43; refine (rwidth_any _ _).mono ?_; rintro e w' ⟨rfl, rfl⟩)
      | (go_at_call 33; refine (cut_any _ _ _ (by omega) (by omega)).mono ?_; rintro e w' ⟨rfl, rfl⟩)
      | (go_at_call 44; refine (rcut_any _ _ _ (by omega) (by omega)).mono ?_; rintro e w' ⟨rfl, rfl⟩)
      | (go_at_call 39; refine (sign_any _ _ _ (by omega) (by omega)).mono ?_; rintro e w' ⟨rfl, rfl⟩)
      | (go_at_call 45; refine (rsign_any _ _ _ (by omega) (by omega)).mono ?_; rintro e w' ⟨rfl, rfl⟩)
      | (go_at_call 32; refine (bwakes_any W _ (by assumption)).mono ?_; rintro e w' ⟨rfl, hx'⟩)
      | fail)
    go_ret
    exact ⟨rfl, by assumption⟩
  · simp at hd
    obtain ⟨⟨g0, g1⟩, hw⟩ := hd
    go_enter Try.func14, Try.ntmps14
    go_wp2_with (first
      | (go_at_call 31; refine (Calls_ext (do_any _ _ _ _ _ (by omega) (by omega) (by omega) (by omega) (by omega) (by omega) hw) (by assumption)).mono ?_; rintro e w' ⟨rfl, hx'⟩)
      | (go_at_call 40; refine (rdo_any _ _ _ _ _ (by omega) (by omega) (by omega) (by omega) (by omega) (by omega) hw).mono ?_; rintro e w' ⟨rfl, rfl⟩)
      | (go_at_call 36; refine (holds_bad _ _ _ _ _ hh).mono ?_; rintro e w' ⟨rfl, rfl⟩)
      | (go_at_call 41; refine (rholds_bad _ _ _ _ _ hh).mono ?_; rintro e w' ⟨rfl, rfl⟩)
      | (go_at_call 37; refine (not_any _ _).mono ?_; rintro e w' ⟨rfl, rfl⟩)
      | (go_at_call 42; refine (rnot_any _ _).mono ?_; rintro e w' ⟨rfl, rfl⟩)
      | (go_at_call 38; refine (width_any _ _).mono ?_; rintro e w' ⟨rfl, rfl⟩)
      | (go_at_call 43; refine (rwidth_any _ _).mono ?_; rintro e w' ⟨rfl, rfl⟩)
      | (go_at_call 33; refine (cut_any _ _ _ (by omega) (by omega)).mono ?_; rintro e w' ⟨rfl, rfl⟩)
      | (go_at_call 44; refine (rcut_any _ _ _ (by omega) (by omega)).mono ?_; rintro e w' ⟨rfl, rfl⟩)
      | (go_at_call 39; refine (sign_any _ _ _ (by omega) (by omega)).mono ?_; rintro e w' ⟨rfl, rfl⟩)
      | (go_at_call 45; refine (rsign_any _ _ _ (by omega) (by omega)).mono ?_; rintro e w' ⟨rfl, rfl⟩)
      | (go_at_call 32; refine (bwakes_any W _ (by assumption)).mono ?_; rintro e w' ⟨rfl, hx'⟩)
      | fail)
    go_ret
    exact ⟨rfl, by assumption⟩
  · simp at hh
    obtain ⟨⟨g0, g1⟩, hw⟩ := hh
    go_enter Try.func14, Try.ntmps14
    go_wp2_with (first
      | (go_at_call 31; refine (do_bad _ _ _ _ _ hd).mono ?_; rintro e w' ⟨rfl, rfl⟩)
      | (go_at_call 40; refine (rdo_bad _ _ _ _ _ hd).mono ?_; rintro e w' ⟨rfl, rfl⟩)
      | (go_at_call 36; refine (holds_any _ _ _ _ _ (by omega) (by omega) (by omega) (by omega) (by omega) (by omega) hw).mono ?_; rintro e w' ⟨rfl, rfl⟩)
      | (go_at_call 41; refine (rholds_any _ _ _ _ _ (by omega) (by omega) (by omega) (by omega) (by omega) (by omega) hw).mono ?_; rintro e w' ⟨rfl, rfl⟩)
      | (go_at_call 37; refine (not_any _ _).mono ?_; rintro e w' ⟨rfl, rfl⟩)
      | (go_at_call 42; refine (rnot_any _ _).mono ?_; rintro e w' ⟨rfl, rfl⟩)
      | (go_at_call 38; refine (width_any _ _).mono ?_; rintro e w' ⟨rfl, rfl⟩)
      | (go_at_call 43; refine (rwidth_any _ _).mono ?_; rintro e w' ⟨rfl, rfl⟩)
      | (go_at_call 33; refine (cut_any _ _ _ (by omega) (by omega)).mono ?_; rintro e w' ⟨rfl, rfl⟩)
      | (go_at_call 44; refine (rcut_any _ _ _ (by omega) (by omega)).mono ?_; rintro e w' ⟨rfl, rfl⟩)
      | (go_at_call 39; refine (sign_any _ _ _ (by omega) (by omega)).mono ?_; rintro e w' ⟨rfl, rfl⟩)
      | (go_at_call 45; refine (rsign_any _ _ _ (by omega) (by omega)).mono ?_; rintro e w' ⟨rfl, rfl⟩)
      | (go_at_call 32; refine (bwakes_any W _ (by assumption)).mono ?_; rintro e w' ⟨rfl, hx'⟩)
      | fail)
    go_ret
    exact ⟨rfl, by assumption⟩
  · go_enter Try.func14, Try.ntmps14
    go_wp2_with (first
      | (go_at_call 31; refine (do_bad _ _ _ _ _ hd).mono ?_; rintro e w' ⟨rfl, rfl⟩)
      | (go_at_call 40; refine (rdo_bad _ _ _ _ _ hd).mono ?_; rintro e w' ⟨rfl, rfl⟩)
      | (go_at_call 36; refine (holds_bad _ _ _ _ _ hh).mono ?_; rintro e w' ⟨rfl, rfl⟩)
      | (go_at_call 41; refine (rholds_bad _ _ _ _ _ hh).mono ?_; rintro e w' ⟨rfl, rfl⟩)
      | (go_at_call 37; refine (not_any _ _).mono ?_; rintro e w' ⟨rfl, rfl⟩)
      | (go_at_call 42; refine (rnot_any _ _).mono ?_; rintro e w' ⟨rfl, rfl⟩)
      | (go_at_call 38; refine (width_any _ _).mono ?_; rintro e w' ⟨rfl, rfl⟩)
      | (go_at_call 43; refine (rwidth_any _ _).mono ?_; rintro e w' ⟨rfl, rfl⟩)
      | (go_at_call 33; refine (cut_any _ _ _ (by omega) (by omega)).mono ?_; rintro e w' ⟨rfl, rfl⟩)
      | (go_at_call 44; refine (rcut_any _ _ _ (by omega) (by omega)).mono ?_; rintro e w' ⟨rfl, rfl⟩)
      | (go_at_call 39; refine (sign_any _ _ _ (by omega) (by omega)).mono ?_; rintro e w' ⟨rfl, rfl⟩)
      | (go_at_call 45; refine (rsign_any _ _ _ (by omega) (by omega)).mono ?_; rintro e w' ⟨rfl, rfl⟩)
      | (go_at_call 32; refine (bwakes_any W _ (by assumption)).mono ?_; rintro e w' ⟨rfl, hx'⟩)
      | fail)
    go_ret
    exact ⟨rfl, by assumption⟩
end Go.Proofs.Yteheidiiigjglaa
