/- The reference of scalars comes to the same: plain laws. No walk is in here. -/
import Derived.Test.YtcfnglbcgkappaaKnZ
import Derived.Test.YtcfnglbcgkappaaXbY
set_option linter.unusedVariables false
set_option linter.unusedSimpArgs false
namespace Go.Proofs.Ytcfnglbcgkappaa
open Go Go.RowKit
theorem cfrom_least {lo hi : Int} {m : Nat} (heq : lo / 2 ^ m = hi / 2 ^ m) : ∀ (k n : Nat), n ≤ m → m ≤ n + k → (∀ i, n ≤ i → i < m → ¬ lo / 2 ^ i = hi / 2 ^ i) → cfrom lo hi k n = m
  | 0, n, h1, h2, _ => by simp only [cfrom]; omega
  | k + 1, n, h1, h2, h => by
    unfold cfrom
    by_cases hn : n = m
    · subst hn; rw [if_pos heq]
    · rw [if_neg (h n (Nat.le_refl _) (by omega))]
      exact cfrom_least heq k (n + 1) (by omega) (by omega) (fun i hi1 hi2 => h i (by omega) hi2)
theorem div_blen {x y : Int} (h1 : 0 ≤ x) (h2 : x ≤ 18446744073709551615) (h3 : 0 ≤ y) (h4 : y ≤ 18446744073709551615) (n : Nat) : x / 2 ^ n = y / 2 ^ n ↔ blenN (bits .xor .u64 x y).toNat ≤ n := by
  obtain ⟨a, rfl⟩ := Int.eq_ofNat_of_zero_le h1
  obtain ⟨b, rfl⟩ := Int.eq_ofNat_of_zero_le h3
  rw [u64_xor_nat a b (by omega) (by omega), show ((2 : Int) ^ n) = ((2 ^ n : Nat) : Int) from by simp]
  have e : (((a ^^^ b : Nat) : Int)).toNat = a ^^^ b := by simp
  rw [e]
  have key : a / 2 ^ n = b / 2 ^ n ↔ (a ^^^ b) / 2 ^ n = 0 := by
    rw [← Nat.shiftRight_eq_div_pow, ← Nat.shiftRight_eq_div_pow, ← Nat.shiftRight_eq_div_pow, Nat.shiftRight_xor_distrib, xor_zero_iff]
  have h5 : ((a : Int) / ((2 ^ n : Nat) : Int) = (b : Int) / ((2 ^ n : Nat) : Int)) ↔ a / 2 ^ n = b / 2 ^ n := by
    constructor
    · intro h; exact_mod_cast h
    · intro h; exact_mod_cast h
  rw [h5, key, Nat.div_eq_zero_iff]
  constructor
  · rintro (h | h)
    · have := Nat.pow_pos (n := n) (show 0 < 2 by omega); omega
    · exact blen_le h
  · intro h
    right
    exact Nat.lt_of_lt_of_le (blen_lt _) (Nat.pow_le_pow_right (by omega) h)
theorem kcn_blen {x y : Int} (h1 : 0 ≤ x) (h2 : x ≤ 18446744073709551615) (h3 : 0 ≤ y) (h4 : y ≤ 18446744073709551615) : kcn x y = blenN (bits .xor .u64 x y).toNat := by
  have hx := xor_bd x y
  have hb : blenN (bits .xor .u64 x y).toNat ≤ 64 := blen_le (by omega)
  exact cfrom_least ((div_blen h1 h2 h3 h4 _).2 (Nat.le_refl _)) 64 0 (by omega) (by omega) (fun i _ hi => by rw [div_blen h1 h2 h3 h4]; omega)
theorem kcommon_kcom {r : Rg} (hr : r.wf) (h : bmay r = true) : kcommon r.ul r.uh = kcom r := by
  have hm := (bmay_iff r).1 h
  unfold kcommon kcom
  rw [if_neg (by omega), kcn_blen hr.1.1 hr.1.2 hr.2.1.1 hr.2.1.2]
  rfl
theorem bmeet_may {a b : Rg} (h : bmeets a b = true) : bmay (bmeet a b) = true := by
  unfold bmeet
  rw [if_pos h]
  unfold bmeets at h
  simp only [Bool.and_eq_true] at h
  exact bmay_bnar h.2.2
theorem wo_1 {a : Sc} (_ : a.wf) (h : vs1 a = false) : (if (vs1 a && vs2 a) = true then vst a else vall) = vall ∧ (vs1 a && vs2 a) = false := by
  rw [h]; exact ⟨rfl, rfl⟩
theorem com_vs2 {a : Sc} (w : a.wf) (h1 : vs1 a = true) : kcommon (bmeet a.r (vlo a.k)).ul (bmeet a.r (vlo a.k)).uh = kcom (bmeet a.r (vlo a.k)) := kcommon_kcom (wf_bmeet w.r (wf_vlo w.k)) (bmeet_may h1)
theorem wo_2 {a : Sc} (w : a.wf) (h1 : vs1 a = true) (h2 : kmeets a.k (kcommon (bmeet a.r (vlo a.k)).ul (bmeet a.r (vlo a.k)).uh) = false) : (if (vs1 a && vs2 a) = true then vst a else vall) = vall ∧ (vs1 a && vs2 a) = false := by
  rw [com_vs2 w h1] at h2
  have h3 : vs2 a = false := h2
  rw [h1, h3]; exact ⟨rfl, rfl⟩
theorem wo_3 {a : Sc} (w : a.wf) (h1 : vs1 a = true) (h2 : kmeets a.k (kcommon (bmeet a.r (vlo a.k)).ul (bmeet a.r (vlo a.k)).uh) = true) :
    (if (vs1 a && vs2 a) = true then vst a else vall) = sc (bmeet a.r (vlo a.k)) (kmeet a.k (kcommon (bmeet a.r (vlo a.k)).ul (bmeet a.r (vlo a.k)).uh)) ∧ (vs1 a && vs2 a) = true := by
  rw [com_vs2 w h1] at h2 ⊢
  have h3 : vs2 a = true := h2
  rw [h1, h3]; exact ⟨rfl, rfl⟩
theorem wn_1 {a : Sc} (h : vmay a = false) : vnar a = vall ∧ vnok a = false := vn_f (.inl h)
theorem wn_2 {a : Sc} (_ : vmay a = true) (h : (vs1 a && vs2 a) = false) : vnar a = vall ∧ vnok a = false := by
  rw [Bool.and_eq_false_iff] at h
  rcases h with h | h
  · exact vn_f (.inr (.inl h))
  · exact vn_f (.inr (.inr (.inl h)))
theorem wn_3 {a : Sc} (h : vmay a = true) (h2 : (vs1 a && vs2 a) = true) : vnar a = (if (vs1 (if (vs1 a && vs2 a) = true then vst a else vall) && vs2 (if (vs1 a && vs2 a) = true then vst a else vall)) = true then vst (if (vs1 a && vs2 a) = true then vst a else vall) else vall) ∧
    vnok a = (vs1 (if (vs1 a && vs2 a) = true then vst a else vall) && vs2 (if (vs1 a && vs2 a) = true then vst a else vall)) := by
  rw [if_pos h2]
  rw [Bool.and_eq_true] at h2
  have e : vnok a = (vs1 (vst a) && vs2 (vst a)) := by unfold vnok; rw [h, h2.1, h2.2]; rfl
  refine ⟨?_, e⟩
  unfold vnar
  rw [e]
theorem bw_t {x y z : Int} (h : decide (y < x) = true) : (if (x == y) = false ∧ decide (y < x) = true then z else x) = z := by
  refine if_pos ⟨?_, h⟩
  have := of_decide_eq_true h
  simp; omega
theorem bw_f {x y z : Int} (h : decide (y < x) = false) : (if (x == y) = false ∧ decide (y < x) = true then z else x) = x := if_neg (fun q => by rw [h] at q; exact absurd q.2 (by simp))
theorem bx_t {x y z : Int} (h : decide (x < y) = true) : (if (x == y) = false ∧ decide (x < y) = true then z else x) = z := by
  refine if_pos ⟨?_, h⟩
  have := of_decide_eq_true h
  simp; omega
theorem bx_f {x y z : Int} (h : decide (x < y) = false) : (if (x == y) = false ∧ decide (x < y) = true then z else x) = x := if_neg (fun q => by rw [h] at q; exact absurd q.2 (by simp))
theorem bwid_mk {x y : Rg} {p1 p2 p3 p4 : Int} (h1 : (if (x.ul == y.ul) = false ∧ decide (y.ul < x.ul) = true then 0 else x.ul) = p1) (h2 : (if (x.uh == y.uh) = false ∧ decide (x.uh < y.uh) = true then 18446744073709551615 else x.uh) = p2)
    (h3 : (if (x.sl == y.sl) = false ∧ decide (y.sl < x.sl) = true then -9223372036854775808 else x.sl) = p3) (h4 : (if (x.sh == y.sh) = false ∧ decide (x.sh < y.sh) = true then 9223372036854775807 else x.sh) = p4) : bwid x y = ⟨p1, p2, p3, p4⟩ := by
  unfold bwid; rw [h1, h2, h3, h4]
theorem vwid_mk {a b : Sc} (h0 : vmay a = true) (h1 : vmay b = true) {r : Rg} (h : bwid a.r b.r = r) : vwid a b = vnar (sc r (kjoin a.k b.k)) := by
  rw [← h]; exact if_pos ⟨h0, h1⟩
theorem agg_Sc {r s : Sc} (h : r = s) : [Dt.z r.ul, .z r.uh, .z r.sl, .z r.sh, .z r.v, .z r.m] = [Dt.z s.ul, .z s.uh, .z s.sl, .z s.sh, .z s.v, .z s.m] := by rw [h]
def vbyt (n : Int) : Sc := vbel (2 ^ (8 * (min (max n 1) 8).toNat) - 1)
theorem clamp_cases (n : Int) : min (max n 1) 8 = 1 ∨ min (max n 1) 8 = 2 ∨ min (max n 1) 8 = 3 ∨ min (max n 1) 8 = 4 ∨ min (max n 1) 8 = 5 ∨ min (max n 1) 8 = 6 ∨ min (max n 1) 8 = 7 ∨ min (max n 1) 8 = 8 := by omega
end Go.Proofs.Ytcfnglbcgkappaa

