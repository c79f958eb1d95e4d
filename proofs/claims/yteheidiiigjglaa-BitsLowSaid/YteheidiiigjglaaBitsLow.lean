/- The walk of the law BitsLow, and what it needs of zdo. -/
import Derived.Test.YteheidiiigjglaaBitsW
namespace Go.Proofs.Yteheidiiigjglaa
open Go.RowKit

def opl (k : Nat) : Int := [0, 1, 2, 4, 5, 10, 8, 11].getD k 0
theorem opl_bd (k : Nat) : 0 ≤ opl k ∧ opl k ≤ 12 := by
  unfold opl
  match k with
  | 0 | 1 | 2 | 3 | 4 | 5 | 6 | 7 => decide
  | k + 8 => simp
theorem mul_low (a b : Int) : (a * b % 18446744073709551616) % 4294967296 = (((a % 4294967296) * (b % 4294967296)) % 18446744073709551616) % 4294967296 := by
  rw [Int.emod_emod_of_dvd _ (by decide), Int.emod_emod_of_dvd _ (by decide)]
  exact Int.mul_emod a b 4294967296
theorem or32 (n m : Nat) : (n ||| m) % 4294967296 = n % 4294967296 ||| m % 4294967296 := Nat.or_mod_two_pow (n := 32)
theorem and32 (n m : Nat) : (n &&& m) % 4294967296 = n % 4294967296 &&& m % 4294967296 := Nat.and_mod_two_pow (n := 32)
theorem xor32 (n m : Nat) : (n ^^^ m) % 4294967296 = n % 4294967296 ^^^ m % 4294967296 := Nat.xor_mod_two_pow (n := 32)
theorem low_any (a b : Int) (h0 : 0 ≤ a) (h2 : 0 ≤ b) (k : Nat) (hk : k < 8) : zcut (zdo (opl k) 64 a b) 32 = zdo (opl k) 32 a b := by
  obtain ⟨n, rfl⟩ := Int.eq_ofNat_of_zero_le h0
  obtain ⟨m, rfl⟩ := Int.eq_ofNat_of_zero_le h2
  have en : ((n : Int) % 4294967296).toNat = n % 2 ^ 32 := by omega
  have em : ((m : Int) % 4294967296).toNat = m % 2 ^ 32 := by omega
  match k, hk with
  | 0, _ => simp [opl, zdo, zop, zcut_32, zcut_64]
  | 1, _ => simp [opl, zdo, zop, zcut_32, zcut_64]; try omega
  | 2, _ => simp only [opl, zdo, zop, zcut_32, zcut_64]; simp; exact Int.mul_emod _ _ _
  | 3, _ => simp [opl, zdo, zop, zcut_32, zcut_64, en, em]; rw [← or32]; omega
  | 4, _ => simp [opl, zdo, zop, zcut_32, zcut_64, en, em]; rw [← and32]; omega
  | 5, _ => simp [opl, zdo, zop, zcut_32, zcut_64, en, em]; rw [← xor32]; omega
  | 6, _ => simp [opl, zdo, zop, zcut_32, zcut_64]; omega
  | 7, _ => simp [opl, zdo, zop, zcut_32, zcut_64]
theorem low_shl (a b : Int) (h2 : 0 ≤ b) : zcut (zdo 6 64 a (b % 32)) 32 = zdo 6 32 a b := by
  have e1 : b % 32 % 64 = b % 32 := by omega
  have e2 : b % 4294967296 % 32 = b % 32 := by omega
  simp only [zdo, zop, zcut_32, zcut_64]
  simp [e1, e2]
  have r1 := Int.mul_emod a (2 ^ (b % 32).toNat) 4294967296
  have r2 := Int.mul_emod (a % 4294967296) (2 ^ (b % 32).toNat) 4294967296
  rw [Int.emod_emod] at r2
  rw [r1, r2]

set_option maxRecDepth 100000 in
set_option maxHeartbeats 2000000 in
theorem law_BitsLow (a0 : Int) (w0 : (Lit.int .u64 a0).wf = true) (a1 : Int) (w1 : (Lit.int .u64 a1).wf = true) (W : World) :
    Calls Try.prog 10 #[.int .u64 a0, .int .u64 a1] W fun e W' => e = .returned (.bool true) ∧ Below W.heap.size W W' := by
  obtain ⟨h0, h1⟩ := wf_u64 w0
  obtain ⟨h2, h3⟩ := wf_u64 w1
  clear w0 w1
  have hs := and31 a1 h2 h3
  have hm1 : 0 ≤ a1 % 32 := by omega
  have hm2 : a1 % 32 ≤ 31 := by omega
  have hl := low_shl a0 a1 h2
  obtain ⟨b1, b2⟩ := zdo_bd 6 64 a0 (a1 % 32) h0 h1 (by omega) (by omega)
  have hx : Ext W W := Ext.refl W
  have hcell : ∀ k, k < 8 → (W.alloc (.cells #[.int .i8 0, .int .i8 1, .int .i8 2, .int .i8 4, .int .i8 5, .int .i8 10, .int .i8 8, .int .i8 11] 27)).cell? ⟨W.heap.size, k, none⟩ = some (.int .i8 (opl k)) := by
    intro k hk
    match k, hk with
    | 0, _ | 1, _ | 2, _ | 3, _ | 4, _ | 5, _ | 6, _ | 7, _ => simp [opl, go_sem]
  have HC := hide hcell
  clear hcell
  go_enter Try.func10, Try.ntmps10
  go_wp2_with fail
  go_loopw [17] (fun v wr => ∃ k : Nat, k ≤ 8 ∧ v = .int .i64 k ∧ Ext (W.alloc (.cells #[.int .i8 0, .int .i8 1, .int .i8 2, .int .i8 4, .int .i8 5, .int .i8 10, .int .i8 8, .int .i8 11] 27)) wr) (fun v _ => 8 - (intOf v).toNat)
  case atStart => exact ⟨0, by omega, rfl, Ext.refl _⟩
  case round =>
    obtain ⟨k, hk, rfl, hxr⟩ := hrel
    by_cases hlt : k < 8
    · have hc := hxr.cell (HC.out k hlt)
      have he := low_any a0 a1 h0 h2 k hlt
      obtain ⟨o1, o2⟩ := opl_bd k
      obtain ⟨d1, d2⟩ := zdo_bd (opl k) 64 a0 a1 h0 h1 h2 h3
      go_wp2_with (first
        | (go_at_call 31; refine (Calls_ext (do_any _ _ _ _ _ (by omega) (by omega) (by omega) (by omega) (by omega) (by omega) (by decide)) (by assumption)).mono ?_; rintro e w' ⟨rfl, hx'⟩)
        | (go_at_call 33; refine (cut_any _ _ _ (by omega) (by omega)).mono ?_; rintro e w' ⟨rfl, rfl⟩)
        | fail)
      go_roundw
      case rel => exact ⟨k + 1, by omega, by go_num, by assumption⟩
      case measure => simp [intOf]; omega
    · have hxw : Ext W wr := (hx.alloc _).trans hxr
      go_wp2_with (first
        | (go_at_call 31; refine (Calls_ext (do_any _ _ _ _ _ (by omega) (by omega) (by omega) (by omega) (by omega) (by omega) (by decide)) hxw).mono ?_; rintro e w' ⟨rfl, hx1⟩)
        | (go_at_call 31; refine (Calls_ext (do_any _ _ _ _ _ (by omega) (by omega) (by omega) (by omega) (by omega) (by omega) (by decide)) hx1).mono ?_; rintro e w' ⟨rfl, hx2⟩)
        | (go_at_call 33; refine (cut_any _ _ _ (by omega) (by omega)).mono ?_; rintro e w' ⟨rfl, rfl⟩)
        | (go_at_call 32; refine (bwakes_any W _ (by assumption)).mono ?_; rintro e w' ⟨rfl, hx'⟩)
        | fail)
      go_ret
      exact ⟨rfl, by assumption⟩
end Go.Proofs.Yteheidiiigjglaa
