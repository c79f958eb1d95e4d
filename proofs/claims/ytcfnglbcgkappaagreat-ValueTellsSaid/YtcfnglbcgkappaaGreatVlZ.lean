/- Texts Vk, Vl in one. -/
import Derived.Test.YtcfnglbcgkappaaGreatVaA
import Derived.Test.YtcfnglbcgkappaaGreatBdXP
import Derived.Test.YtcfnglbcgkappaaGreatKnLZ
/- Records of known bits and scalars whose numbers are in range. -/
set_option linter.unusedVariables false
set_option linter.unusedSimpArgs false
namespace Go.Proofs.YtcfnglbcgkappaaGreat
open Go Go.RowKit
theorem Kn.wf_of {a : Kn} (h : a.ok) : a.wf := ⟨inK_u64 h.1, inK_u64 h.2⟩
structure Sc.wf (a : Sc) : Prop where
  r : a.r.wf
  k : a.k.wf
theorem Sc.wf_of {a : Sc} (h : a.ok) : a.wf := by
  obtain ⟨h1, h2, h3, h4, h5, h6⟩ := h
  exact ⟨⟨inK_u64 h1, inK_u64 h2, inK_i64 h3, inK_i64 h4⟩, ⟨inK_u64 h5, inK_u64 h6⟩⟩
end Go.Proofs.YtcfnglbcgkappaaGreat

/- What scalars hold is held by their narrowing and by Given: plain laws. No walk is in here. -/
set_option linter.unusedVariables false
set_option linter.unusedSimpArgs false
namespace Go.Proofs.YtcfnglbcgkappaaGreat
open Go Go.RowKit
theorem kcom_has {r : Rg} (hr : r.wf) {z : Int} (z0 : r.ul ≤ z) (z1 : z ≤ r.uh) : khas (kcom r) z = true := by
  obtain ⟨⟨l0, l1⟩, ⟨u0, u1⟩, _⟩ := hr
  have hx := xor_bd r.ul r.uh
  obtain ⟨n, hn⟩ : ∃ n, blenN (bits .xor .u64 r.ul r.uh).toNat = n := ⟨_, rfl⟩
  have hle : n ≤ 64 := by rw [← hn]; exact blen_le (by omega)
  have hsame : r.ul / 2 ^ n = r.uh / 2 ^ n := by
    refine (diff_iff r.ul r.uh n hle l0 l1 u0 u1).1 ?_
    have hlt := blen_lt (bits .xor .u64 r.ul r.uh).toNat
    rw [hn] at hlt
    obtain ⟨x, hx'⟩ := Int.eq_ofNat_of_zero_le hx.1
    rw [hx'] at hlt hx ⊢
    have hq : 1 ≤ (2 : Nat) ^ n := Nat.one_le_two_pow
    have hp : (2 : Nat) ^ n ≤ 2 ^ 64 := Nat.pow_le_pow_right (by omega) hle
    rw [show ((2 : Int) ^ n - 1) = ((2 ^ n - 1 : Nat) : Int) from by rw [Int.ofNat_sub hq]; simp, u64_andNot_nat x (2 ^ n - 1) (by omega) (by omega)]
    have h6 := (and_high x n hle (by omega)).2 (Nat.div_eq_of_lt (by simpa using hlt))
    exact_mod_cast h6
  have hz : z / 2 ^ n = r.ul / 2 ^ n := by
    have hp : (0 : Int) < 2 ^ n := Int.pow_pos (by omega)
    have g1 := Int.ediv_le_ediv hp z0
    have g2 := Int.ediv_le_ediv hp z1
    omega
  have hd := (diff_iff z r.ul _ hle (by omega) (by omega) l0 l1).2 hz
  have hpb := pow_bd0 hle
  have hcv : kcom r = kmask r.ul (2 ^ n - 1) := by unfold kcom bfill; rw [hn]
  rw [hcv, khas_mask (by generalize (2 : Int) ^ n = x at *; omega)]
  intro i hi' hm
  have h5 := (tb_eq (andNot_bd _ _) zero_bd).1 (beq_iff_eq.2 hd) i hi'
  rw [tb_andNot _ _ hi', tb_xor, tb_zero, hm] at h5
  revert h5
  cases tb z i <;> cases tb r.ul i <;> simp
theorem wf_vlo {k : Kn} (hk : k.wf) : (vlo k).wf := ⟨hk.1, or_bd _ _, by simp [vlo, ball], by simp [vlo, ball]⟩
theorem lo_has {k : Kn} (hk : k.wf) {x : Int} (hx : 0 ≤ x ∧ x ≤ 18446744073709551615) (h : khas k x = true) : bhas (vlo k) x = true := by
  have A := among_of hk h
  have h1 := A.low.mod 64
  have h2 := A.high.mod 64
  rw [← bv_or] at h2
  have e1 := bv_toNat hk.1.1 hk.1.2
  have e2 := bv_toNat hx.1 hx.2
  have e3 := bv_toNat (or_bd k.v k.m).1 (or_bd k.v k.m).2
  rw [Nat.mod_eq_of_lt (BitVec.isLt _), Nat.mod_eq_of_lt (BitVec.isLt _)] at h1 h2
  rw [bhas_iff]
  have := s64_bd x
  show k.v ≤ x ∧ x ≤ bits .or .u64 k.v k.m ∧ -9223372036854775808 ≤ s64 x ∧ s64 x ≤ 9223372036854775807
  omega
theorem wf_bmeet {a b : Rg} (ha : a.wf) (hb : b.wf) : (bmeet a b).wf := by
  unfold bmeet
  split
  · exact wf_bnar (wf_meet0 ha hb)
  · exact wf_ball
theorem wf_kmeet (a b : Kn) : (kmeet a b).wf := by
  unfold kmeet
  split
  · exact wf_kmask (and_bd _ _)
  · exact wf_kall
theorem wf_kcom {r : Rg} (hr : r.wf) : (kcom r).wf := wf_kmask (bfill_bd (xor_bd _ _).2)
theorem wf_sc {r : Rg} {k : Kn} (hr : r.wf) (hk : k.wf) : (sc r k).wf := ⟨hr, hk⟩
theorem wf_vst {a : Sc} (ha : a.wf) : (vst a).wf := wf_sc (wf_bmeet ha.r (wf_vlo ha.k)) (wf_kmeet _ _)
theorem wf_vall : vall.wf := wf_sc wf_ball wf_kall
theorem wf_vnar {a : Sc} (ha : a.wf) : (vnar a).wf := by
  unfold vnar
  split
  · exact wf_vst (wf_vst ha)
  · exact wf_vall
theorem vhas_mk {a : Sc} {x : Int} (h1 : bhas a.r x = true) (h2 : khas a.k x = true) : vhas a x = true := by
  unfold vhas vmay
  rw [bhas_may h1, khas_may h2, h1, h2]; rfl
theorem vhas_r {a : Sc} {x : Int} (h : vhas a x = true) : bhas a.r x = true := by unfold vhas at h; simp only [Bool.and_eq_true] at h; exact h.2.1
theorem vhas_k {a : Sc} {x : Int} (h : vhas a x = true) : khas a.k x = true := by unfold vhas at h; simp only [Bool.and_eq_true] at h; exact h.2.2
theorem vhas_may {a : Sc} {x : Int} (h : vhas a x = true) : vmay a = true := by unfold vhas at h; rw [Bool.and_eq_true] at h; exact h.1
theorem kmeets_of {a b : Kn} (ha : a.wf) (hb : b.wf) {z : Int} (h1 : khas a z = true) (h2 : khas b z = true) : kmeets a b = true ∧ khas (kmeet a b) z = true := by
  cases h : kmeets a b
  · have := kmeet_none ha hb h z
    rw [h1, h2] at this; cases this
  · exact ⟨rfl, by rw [kmeet_has ha hb h z, h1, h2]; rfl⟩
theorem bmeets_of {a b : Rg} (ha : a.wf) (hb : b.wf) {z : Int} (hz : 0 ≤ z ∧ z ≤ 18446744073709551615) (h1 : bhas a z = true) (h2 : bhas b z = true) : bmeets a b = true ∧ bhas (bmeet a b) z = true := by
  have h := has_meet ha hb hz.1 hz.2 h2
  rw [h1] at h
  have h := h.symm
  rw [Bool.and_eq_true] at h
  exact h
theorem vst_has {a : Sc} (ha : a.wf) {x : Int} (hx : 0 ≤ x ∧ x ≤ 18446744073709551615) (h : vhas a x = true) : vs1 a = true ∧ vs2 a = true ∧ vhas (vst a) x = true := by
  have h1 := bmeets_of ha.r (wf_vlo ha.k) hx (vhas_r h) (lo_has ha.k hx (vhas_k h))
  have hw := wf_bmeet ha.r (wf_vlo ha.k)
  have hb := (bhas_iff _ _).1 h1.2
  have h2 := kmeets_of ha.k (wf_kcom hw) (vhas_k h) (kcom_has hw hb.1 hb.2.1)
  exact ⟨h1.1, h2.1, vhas_mk (a := vst a) h1.2 h2.2⟩
theorem vnar_has {a : Sc} (ha : a.wf) {x : Int} (hx : 0 ≤ x ∧ x ≤ 18446744073709551615) (h : vhas a x = true) : vnok a = true ∧ vhas (vnar a) x = true := by
  obtain ⟨h1, h2, h3⟩ := vst_has ha hx h
  obtain ⟨g1, g2, g3⟩ := vst_has (wf_vst ha) hx h3
  have e := vn_t (vhas_may h) h1 h2 g1 g2
  exact ⟨e.2, by rw [e.1]; exact g3⟩
theorem wf_bgiv {cc : Int} {a b : Rg} (ha : a.wf) (hb : b.wf) : (bgiv cc a b).wf := by
  unfold bgiv
  split
  · rename_i hk
    have hg := bgood_of hk
    unfold bgok at hk
    rw [hg, Bool.true_and] at hk
    unfold bgood at hg
    simp only [Bool.and_eq_true] at hg
    by_cases c : cc = 0
    · rw [if_pos c]; exact wf_bmeet ha hb
    · rw [if_neg c] at hk ⊢
      rw [Bool.and_eq_true] at hk
      exact wf_bnar (wf_brng ha hb hg.1 hg.2.1 hk.1)
  · exact wf_ball
theorem vgiv_has {cc : Int} {a b : Sc} {v x : Int} (ha : a.wf) (hb : b.wf) (hv : 0 ≤ v ∧ v ≤ 18446744073709551615) (hx : 0 ≤ x ∧ x ≤ 18446744073709551615)
    (h1 : vhas a v = true) (h2 : vhas b x = true) (hc : okcc cc 64 = true) (hy : zhold cc 64 v x = true) : vgok cc a b = true ∧ vhas (vgiv cc a b) v = true := by
  unfold okcc at hc
  simp only [Bool.and_eq_true, decide_eq_true_eq] at hc
  have hy := zhold_bhold hy
  have hg := giv_has ha.r hb.r hv.1 hv.2 hx.1 hx.2 (vhas_r h1) (vhas_r h2) hc.1.1 hc.1.2 hy
  by_cases c : cc = 0
  · have e : v = x := by
      unfold bhold at hy
      rw [if_pos c] at hy
      exact of_decide_eq_true hy
    subst e
    have hk := kmeets_of ha.k hb.k (vhas_k h1) (vhas_k h2)
    have q := vg_0 (vhas_may h1) (vhas_may h2) hg.1 (beq_iff_eq.2 c) hk.1
    rw [q.1, q.2]
    exact vnar_has (wf_sc (wf_bgiv ha.r hb.r) (wf_kmeet _ _)) hv (vhas_mk (a := sc _ _) hg.2 hk.2)
  · have q := vg_n (vhas_may h1) (vhas_may h2) hg.1 (beq_eq_false_iff_ne.2 c)
    rw [q.1, q.2]
    exact vnar_has (wf_sc (wf_bgiv ha.r hb.r) ha.k) hv (vhas_mk (a := sc (bgiv cc a.r b.r) a.k) hg.2 (vhas_k (a := a) h1))
end Go.Proofs.YtcfnglbcgkappaaGreat
