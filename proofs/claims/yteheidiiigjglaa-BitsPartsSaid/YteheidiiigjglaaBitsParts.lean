/- The walk of the law BitsParts. -/
import Derived.Test.YteheidiiigjglaaBitsW
import Derived.Test.YteheidiiigjglaaBitsPm
namespace Go.Proofs.Yteheidiiigjglaa
open Go.RowKit

def opp (k : Nat) : Int := [6, 7, 12].getD k 0
theorem opp_bd (k : Nat) : 0 ≤ opp k ∧ opp k ≤ 12 := by
  unfold opp
  match k with
  | 0 | 1 | 2 => decide
  | k + 3 => simp
theorem opp_in (k : Nat) (h : k < 3) : opp k = 6 ∨ opp k = 7 ∨ opp k = 12 := by
  match k, h with
  | 0, _ | 1, _ | 2, _ => simp [opp]

set_option maxRecDepth 100000 in
set_option maxHeartbeats 2000000 in
theorem parts_long (a0 a1 a2 a3 : Int) (hw : zlong a0 = true) (h0 : 0 ≤ a1) (h1 : a1 ≤ 18446744073709551615) (h2 : 0 ≤ a2) (h3 : a2 ≤ 255) (h4 : 0 ≤ a3) (h5 : a3 ≤ 255) (W : World) :
    Calls Try.prog 9 #[.int .i8 a0, .int .u64 a1, .int .u8 a2, .int .u8 a3] W fun e W' => e = .returned (.bool true) ∧ Below W.heap.size W W' := by
  have hx : Ext W W := Ext.refl W
  have hW : a0 = 32 ∨ a0 = 64 := zlong_cases hw
  have hw2 : 0 ≤ a0 ∧ a0 ≤ 64 ∧ 1 ≤ a0 := by omega
  obtain ⟨hw3, hw4, hw5⟩ := hw2
  have n0 : 0 ≤ a2 % a0 := Int.emod_nonneg _ (by omega)
  have n1 : a2 % a0 < a0 := Int.emod_lt_of_pos _ (by omega)
  have m0 : 0 ≤ a3 % a0 := Int.emod_nonneg _ (by omega)
  have m1 : a3 % a0 < a0 := Int.emod_lt_of_pos _ (by omega)
  have hb := back_any a0 a1 (a2 % a0) hw h0 h1 n0 n1
  obtain ⟨u1, u2⟩ := zdo_bd 6 a0 a1 (a2 % a0) h0 h1 n0 (by omega)
  have hcell : ∀ W1 : World, ∀ k, k < 3 → (W1.alloc (.cells #[.int .i8 6, .int .i8 7, .int .i8 12] 27)).cell? ⟨W1.heap.size, k, none⟩ = some (.int .i8 (opp k)) := by
    intro W1 k hk
    match k, hk with
    | 0, _ | 1, _ | 2, _ => simp [opp, go_sem]
  have HC := hide hcell
  clear hcell
  have ht : (a0 != 32) = false ∨ ((a0 != 32) = true ∧ (a0 != 64) = false) := by rcases hW with rfl | rfl <;> simp
  have HW := hide hW
  clear hW
  rcases ht with ht | ⟨ht, ht'⟩
  all_goals
    go_enter Try.func9, Try.ntmps9
    go_wp2_with fail
    go_quiet (fail)
    go_wp2_with fail
    go_loopw [44] (fun v wr => ∃ k : Nat, k ≤ 3 ∧ v = .int .i64 k ∧ Ext ((W.drewN nq).alloc (.cells #[.int .i8 6, .int .i8 7, .int .i8 12] 27)) wr) (fun v _ => 3 - (intOf v).toNat)
    case atStart => exact ⟨0, by omega, rfl, Ext.refl _⟩
    case round =>
      obtain ⟨k, hk, rfl, hxr⟩ := hrel
      by_cases hlt : k < 3
      · have hc := hxr.cell (HC.out (W.drewN nq) k hlt)
        have hc' : wr.cell? ⟨W.heap.size, k, none⟩ = some (.int .i8 (opp k)) := hc
        clear hc
        obtain ⟨o1, o2⟩ := opp_bd k
        obtain ⟨d1, d2⟩ := zdo_bd (opp k) a0 a1 (a2 % a0) h0 h1 n0 (by omega)
        by_cases hs : a2 % a0 + a3 % a0 < a0
        · have he := parts_any (opp k) a0 a1 (a2 % a0) (a3 % a0) (opp_in k hlt) hw h0 h1 n0 m0 hs
          go_wp2_with (first
            | (go_at_call 31; refine (Calls_ext (do_any _ _ _ _ _ (by omega) (by omega) (by omega) (by omega) (by omega) (by omega) hw) (by assumption)).mono ?_; rintro e w' ⟨rfl, hx'⟩)
            | fail)
          go_roundw
          case rel => exact ⟨k + 1, by omega, by go_num, by assumption⟩
          case measure => simp [intOf]; omega
        · go_wp2_with (first
            | (go_at_call 31; refine (Calls_ext (do_any _ _ _ _ _ (by omega) (by omega) (by omega) (by omega) (by omega) (by omega) hw) (by assumption)).mono ?_; rintro e w' ⟨rfl, hx'⟩)
            | fail)
          go_roundw
          case rel => exact ⟨k + 1, by omega, by go_num, by assumption⟩
          case measure => simp [intOf]; omega
      · have hxw : Ext W wr := ((hx.drewN nq).alloc _).trans hxr
        go_wp2_with (first
          | (go_at_call 31; refine (Calls_ext (do_any _ _ _ _ _ (by omega) (by omega) (by omega) (by omega) (by omega) (by omega) hw) hxw).mono ?_; rintro e w' ⟨rfl, hx1⟩)
          | (go_at_call 31; refine (Calls_ext (do_any _ _ _ _ _ (by omega) (by omega) (by omega) (by omega) (by omega) (by omega) hw) hx2).mono ?_; rintro e w' ⟨rfl, hx3⟩)
          | (go_at_call 31; refine (Calls_ext (do_any _ _ _ _ _ (by omega) (by omega) (by omega) (by omega) (by omega) (by omega) hw) hx1).mono ?_; rintro e w' ⟨rfl, hx2⟩)
          | (go_at_call 32; refine (bwakes_any W _ (by assumption)).mono ?_; rintro e w' ⟨rfl, hx'⟩)
          | fail)
        go_ret
        exact ⟨rfl, by assumption⟩

set_option maxRecDepth 100000 in
set_option maxHeartbeats 2000000 in
theorem law_BitsParts (a0 : Int) (w0 : (Lit.int .i8 a0).wf = true) (a1 : Int) (w1 : (Lit.int .u64 a1).wf = true) (a2 : Int) (w2 : (Lit.int .u8 a2).wf = true) (a3 : Int) (w3 : (Lit.int .u8 a3).wf = true) (W : World) :
    Calls Try.prog 9 #[.int .i8 a0, .int .u64 a1, .int .u8 a2, .int .u8 a3] W fun e W' => e = .returned (.bool true) ∧ Below W.heap.size W W' := by
  obtain ⟨h0, h1⟩ := wf_u64 w1
  obtain ⟨h2, h3⟩ := wf_u8 w2
  obtain ⟨h4, h5⟩ := wf_u8 w3
  cases hw : zlong a0
  · simp [zlong] at hw
    obtain ⟨n32, n64⟩ := hw
    have b32 : (a0 != 32) = true := by simp [n32]
    have b64 : (a0 != 64) = true := by simp [n64]
    clear n32 n64
    have hx := Ext.refl W
    go_enter Try.func9, Try.ntmps9
    go_wp2_with (first
        | (go_at_call 32; refine (bwakes_any W _ (by assumption)).mono ?_; rintro e w' ⟨rfl, hx'⟩)
        | fail)
    go_ret
    exact ⟨rfl, by assumption⟩
  · exact parts_long a0 a1 a2 a3 hw h0 h1 h2 h3 h4 h5 W
end Go.Proofs.Yteheidiiigjglaa
