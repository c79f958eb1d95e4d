/- The walk of the law BitsUndo. -/
import Derived.Test.YteheidiiigjglaaBitsW
namespace Go.Proofs.Yteheidiiigjglaa
open Go.RowKit
set_option maxRecDepth 100000 in
set_option maxHeartbeats 2000000 in
theorem undo_long (a0 a1 a2 : Int) (W : World) (h0 : 0 ≤ a1) (h1 : a1 ≤ 18446744073709551615) (h2 : 0 ≤ a2) (h3 : a2 ≤ 18446744073709551615) (hw : zlong a0 = true) :
    Calls Try.prog 8 #[.int .i8 a0, .int .u64 a1, .int .u64 a2] W fun e W' => e = .returned (.bool true) ∧ Ext W W' := by
  have hx := Ext.refl W
  have b0 := zdo_bd 0 a0 a1 a2 h0 h1 h2 h3
  obtain ⟨b01, b02⟩ := b0
  obtain ⟨b31, b32⟩ := zdo_bd 3 a0 a1 a2 h0 h1 h2 h3
  obtain ⟨b91, b92⟩ := zdo_bd 9 a0 a1 a2 h0 h1 h2 h3
  obtain ⟨b21, b22⟩ := zdo_bd 2 a0 (zdo 3 a0 a1 a2) a2 b31 b32 h2 h3
  obtain ⟨c11, c12⟩ := zcut_bd a1 a0 h0 h1
  obtain ⟨c21, c22⟩ := zcut_bd a2 a0 h2 h3
  have e1 := undo_add a0 a1 a2 hw h0 h1 h2 h3
  have s1 : ∀ op, zdo op a0 (zcut a1 a0) (zcut a2 a0) = zdo op a0 a1 a2 := fun op => zdo_zcut op a0 a1 a2
  have s2 : ∀ op, zcut (zdo op a0 a1 a2) a0 = zdo op a0 a1 a2 := fun op => zcut_zdo op a0 a1 a2
  have bd : ∀ op, 0 ≤ zdo op a0 a1 a2 ∧ zdo op a0 a1 a2 ≤ 18446744073709551615 := fun op => zdo_bd op a0 a1 a2 h0 h1 h2 h3
  have BD := hide bd
  clear bd
  by_cases hz : zcut a2 a0 = 0
  · obtain ⟨e3, e9⟩ := undo_zero a0 a1 a2 hz
    have s3 : ∀ op, zdo op a0 (zcut a1 a0) 0 = zdo op a0 a1 a2 := fun op => by rw [← hz]; exact s1 op
    obtain ⟨bz1, bz2⟩ := zdo_bd 2 a0 0 a2 (by omega) (by omega) h2 h3
    go_enter Try.func8, Try.ntmps8
    go_wp2_with (first
      | (go_at_call 31; refine (Calls_ext (do_any _ _ _ _ _ (by omega) (by omega) (by omega) (by omega) (by omega) (by omega) hw) (by assumption)).mono ?_; rintro e w' ⟨rfl, hx'⟩)
      | (go_at_call 33; refine (cut_any _ _ _ (by omega) (by omega)).mono ?_; rintro e w' ⟨rfl, rfl⟩)
      | fail)
    go_loopw [19] (fun v wr => ∃ k : Int, 0 ≤ k ∧ k ≤ 13 ∧ v = .int .i8 k ∧ Ext W wr) (fun v _ => (13 - intOf v).toNat)
    case atStart => exact ⟨0, by omega, by omega, rfl, by assumption⟩
    case round =>
      obtain ⟨k, hk0, hk1, rfl, hxr⟩ := hrel
      obtain ⟨d1, d2⟩ := BD.out k
      by_cases hlt : k ≤ 12
      · go_wp2_with (first
          | (go_at_call 31; refine (Calls_ext (do_any _ _ _ _ _ (by omega) (by omega) (by omega) (by omega) (by omega) (by omega) hw) (by assumption)).mono ?_; rintro e w' ⟨rfl, hx'⟩)
          | (go_at_call 33; refine (cut_any _ _ _ (by omega) (by omega)).mono ?_; rintro e w' ⟨rfl, rfl⟩)
          | fail)
        go_roundw
        case rel => exact ⟨k + 1, by omega, by omega, by go_num, by assumption⟩
        case measure => simp [intOf]; omega
      · go_wp2_with (go_at_call 32; refine (bwakes_any W _ (by assumption)).mono ?_; rintro e w' ⟨rfl, hx'⟩)
        go_ret
        exact ⟨rfl, by assumption⟩
  · obtain ⟨e3, e9⟩ := undo_quo a0 a1 a2 hw h0 h1 h2 h3 hz
    go_enter Try.func8, Try.ntmps8
    go_wp2_with (first
      | (go_at_call 31; refine (Calls_ext (do_any _ _ _ _ _ (by omega) (by omega) (by omega) (by omega) (by omega) (by omega) hw) (by assumption)).mono ?_; rintro e w' ⟨rfl, hx'⟩)
      | (go_at_call 33; refine (cut_any _ _ _ (by omega) (by omega)).mono ?_; rintro e w' ⟨rfl, rfl⟩)
      | fail)
    go_loopw [19] (fun v wr => ∃ k : Int, 0 ≤ k ∧ k ≤ 13 ∧ v = .int .i8 k ∧ Ext W wr) (fun v _ => (13 - intOf v).toNat)
    case atStart => exact ⟨0, by omega, by omega, rfl, by assumption⟩
    case round =>
      obtain ⟨k, hk0, hk1, rfl, hxr⟩ := hrel
      obtain ⟨d1, d2⟩ := BD.out k
      by_cases hlt : k ≤ 12
      · go_wp2_with (first
          | (go_at_call 31; refine (Calls_ext (do_any _ _ _ _ _ (by omega) (by omega) (by omega) (by omega) (by omega) (by omega) hw) (by assumption)).mono ?_; rintro e w' ⟨rfl, hx'⟩)
          | (go_at_call 33; refine (cut_any _ _ _ (by omega) (by omega)).mono ?_; rintro e w' ⟨rfl, rfl⟩)
          | fail)
        go_roundw
        case rel => exact ⟨k + 1, by omega, by omega, by go_num, by assumption⟩
        case measure => simp [intOf]; omega
      · go_wp2_with (go_at_call 32; refine (bwakes_any W _ (by assumption)).mono ?_; rintro e w' ⟨rfl, hx'⟩)
        go_ret
        exact ⟨rfl, by assumption⟩

set_option maxRecDepth 100000 in
set_option maxHeartbeats 2000000 in
theorem undo_short (a0 a1 a2 : Int) (W : World) (hw : zlong a0 = false) :
    Calls Try.prog 8 #[.int .i8 a0, .int .u64 a1, .int .u64 a2] W fun e W' => e = .returned (.bool true) ∧ Ext W W' := by
  have hx := Ext.refl W
  have hb : ∀ op : Int, (decide (op < 0) || decide (12 < op) || !zlong a0) = true := fun op => by simp [hw]
  have HB := hide hb
  clear hb
  have hw' := hw
  simp [zlong] at hw'
  obtain ⟨n32, n64⟩ := hw'
  go_enter Try.func8, Try.ntmps8
  go_wp2_with (first
    | (go_at_call 31; refine (do_bad _ _ _ _ _ (HB.out _)).mono ?_; rintro e w' ⟨rfl, rfl⟩)
    | (go_at_call 32; refine (bwakes_any W _ (by assumption)).mono ?_; rintro e w' ⟨rfl, hx'⟩)
    | fail)
  go_ret
  exact ⟨ret_bool (by simp [n32, n64]), by assumption⟩

theorem law_BitsUndo (a0 : Int) (w0 : (Lit.int .i8 a0).wf = true) (a1 : Int) (w1 : (Lit.int .u64 a1).wf = true) (a2 : Int) (w2 : (Lit.int .u64 a2).wf = true) (W : World) :
    Calls Try.prog 8 #[.int .i8 a0, .int .u64 a1, .int .u64 a2] W fun e W' => e = .returned (.bool true) ∧ Below W.heap.size W W' := by
  obtain ⟨h0, h1⟩ := wf_u64 w1
  obtain ⟨h2, h3⟩ := wf_u64 w2
  cases hw : zlong a0
  · exact undo_short a0 a1 a2 W hw
  · exact undo_long a0 a1 a2 W h0 h1 h2 h3 hw
end Go.Proofs.Yteheidiiigjglaa
