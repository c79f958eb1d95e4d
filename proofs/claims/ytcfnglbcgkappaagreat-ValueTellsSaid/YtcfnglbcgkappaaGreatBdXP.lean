/- Texts BdX, BdP in one. -/
import Derived.Test.YtcfnglbcgkappaaGreatBdS
import Derived.Test.YtcfnglbcgkappaaGreatBdG
import Derived.Deep.RegionHeld3
import Derived.Deep.RegionWith
import Derived.Deep.DeepCutAuto
import Derived.Deep.CutBlock
import Derived.Test.YtcfnglbcgkappaaGreatBitsHo
/- What Given comes to; contracts with letters. -/
set_option linter.unusedVariables false
set_option linter.unusedSimpArgs false
namespace Go.Proofs.YtcfnglbcgkappaaGreat
open Go.RowKit Go.ChangeShapes Go.WideShapes

theorem wf_brng {cc : Int} {a b : Rg} (ha : a.wf) (hb : b.wf) (ma : bmay a = true) (mb : bmay b = true) (hc : bcan cc a b = true) : (brng cc a b).wf := by
  rw [bmay_iff] at ma mb
  have sv := s64_bd b.ul
  obtain ⟨a1, a2, a3, a4⟩ := ha
  obtain ⟨b1, b2, b3, b4⟩ := hb
  unfold bcan at hc
  unfold brng
  generalize s64 b.ul = t at *
  by_cases c1 : cc = 1
  · rw [if_pos c1] at hc ⊢
    by_cases hs : bones b = true
    · rw [if_pos hs] at hc ⊢
      simp only [Bool.and_eq_true, Bool.not_eq_true', decide_eq_false_iff_not] at hc
      refine ⟨?_, ?_, ?_, ?_⟩ <;> simp only <;> split <;> omega
    · rw [if_neg hs]; exact ⟨a1, a2, a3, a4⟩
  rw [if_neg c1] at hc ⊢
  by_cases c2 : cc = 2
  · rw [if_pos c2] at hc ⊢
    simp only [Bool.not_eq_true', decide_eq_false_iff_not] at hc
    exact ⟨by simp only; omega, a2, a3, a4⟩
  rw [if_neg c2] at hc ⊢
  by_cases c3 : cc = 3
  · rw [if_pos c3]; exact ⟨by simp only; omega, a2, a3, a4⟩
  rw [if_neg c3]
  by_cases c4 : cc = 4
  · rw [if_pos c4] at hc ⊢
    simp only [Bool.not_eq_true', decide_eq_false_iff_not] at hc
    exact ⟨a1, by simp only; omega, a3, a4⟩
  rw [if_neg c4] at hc ⊢
  by_cases c5 : cc = 5
  · rw [if_pos c5]; exact ⟨a1, by simp only; omega, a3, a4⟩
  rw [if_neg c5]
  by_cases c6 : cc = 6
  · rw [if_pos c6] at hc ⊢
    simp only [Bool.not_eq_true', decide_eq_false_iff_not] at hc
    exact ⟨a1, a2, by simp only; omega, a4⟩
  rw [if_neg c6] at hc ⊢
  by_cases c7 : cc = 7
  · rw [if_pos c7]; exact ⟨a1, a2, by simp only; omega, a4⟩
  rw [if_neg c7]
  by_cases c8 : cc = 8
  · rw [if_pos c8] at hc ⊢
    simp only [Bool.not_eq_true', decide_eq_false_iff_not] at hc
    exact ⟨a1, a2, a3, by simp only; omega⟩
  rw [if_neg c8]
  by_cases c9 : cc = 9
  · rw [if_pos c9]; exact ⟨a1, a2, a3, by simp only; omega⟩
  rw [if_neg c9]
  exact ⟨a1, a2, a3, a4⟩
theorem bgiv_can {cc : Int} {a b g : Rg} (c0 : cc ≠ 0) (hg : bgood cc a b = true) (hc : bcan cc a b = true) (e : brng cc a b = g) : bgok cc a b = bnok g ∧ bgiv cc a b = bnar g := by
  have h1 : bgok cc a b = bnok g := by unfold bgok; rw [hg, hc, e, if_neg c0]; rfl
  refine ⟨h1, ?_⟩
  unfold bgiv
  rw [h1, if_neg c0, e]
  cases h : bnok g
  · unfold bnar; rw [h]; simp
  · simp
theorem bgiv_not {cc : Int} {a b : Rg} (h : bgood cc a b = false ∨ (cc ≠ 0 ∧ bcan cc a b = false)) : bgok cc a b = false ∧ bgiv cc a b = ball := by
  have h1 : bgok cc a b = false := by
    unfold bgok
    rcases h with h | ⟨h0, h⟩
    · rw [h]; rfl
    · rw [h, if_neg h0]; simp
  exact ⟨h1, by unfold bgiv; rw [h1]; simp⟩
theorem b_uabovel (lo hi l h : Int) (s : Bool) (m x : Int) (t : Bool) (hx0 : pab IntKind.u64.wrap (max lo) (l + 1) l s m lo = x) (ht : (!(s && (l == m))) = t) (W w : World) (hx : Ext W w) :
    Calls Tryz.prog 92 #[.agg #[.int .u64 lo, .int .u64 hi], .agg #[.int .u64 l, .int .u64 h], .bool s, .int .u64 m] w fun e w' => e = .returned (.tuple #[.agg #[.int .u64 x, .int .u64 hi], .bool t]) ∧ Ext W w' := by
  rw [← hx0, ← ht]
  exact b_uabove lo hi l h s m W w hx
theorem b_ubelowl (lo hi l h : Int) (s : Bool) (m x : Int) (t : Bool) (hx0 : pab IntKind.u64.wrap (min hi) (h - 1) h s m hi = x) (ht : (!(s && (h == m))) = t) (W w : World) (hx : Ext W w) :
    Calls Tryz.prog 93 #[.agg #[.int .u64 lo, .int .u64 hi], .agg #[.int .u64 l, .int .u64 h], .bool s, .int .u64 m] w fun e w' => e = .returned (.tuple #[.agg #[.int .u64 lo, .int .u64 x], .bool t]) ∧ Ext W w' := by
  rw [← hx0, ← ht]
  exact b_ubelow lo hi l h s m W w hx
theorem b_uwithoutl (lo hi v x y : Int) (t : Bool) (hx0 : pwlo IntKind.u64.wrap lo hi v = x) (hy0 : pwhi IntKind.u64.wrap lo hi v = y) (ht : (!((lo == v) && (hi == v))) = t) (W w : World) (hx : Ext W w) :
    Calls Tryz.prog 90 #[.agg #[.int .u64 lo, .int .u64 hi], .int .u64 v] w fun e w' => e = .returned (.tuple #[.agg #[.int .u64 x, .int .u64 y], .bool t]) ∧ Ext W w' := by
  rw [← hx0, ← hy0, ← ht]
  exact b_uwithout lo hi v W w hx
theorem b_iabovel (lo hi l h : Int) (s : Bool) (m x : Int) (t : Bool) (hx0 : pab wrap64 (max lo) (l + 1) l s m lo = x) (ht : (!(s && (l == m))) = t) (W w : World) (hx : Ext W w) :
    Calls Tryz.prog 94 #[.agg #[.int .i64 lo, .int .i64 hi], .agg #[.int .i64 l, .int .i64 h], .bool s, .int .i64 m] w fun e w' => e = .returned (.tuple #[.agg #[.int .i64 x, .int .i64 hi], .bool t]) ∧ Ext W w' := by
  rw [← hx0, ← ht]
  exact b_iabove lo hi l h s m W w hx
theorem b_ibelowl (lo hi l h : Int) (s : Bool) (m x : Int) (t : Bool) (hx0 : pab wrap64 (min hi) (h - 1) h s m hi = x) (ht : (!(s && (h == m))) = t) (W w : World) (hx : Ext W w) :
    Calls Tryz.prog 95 #[.agg #[.int .i64 lo, .int .i64 hi], .agg #[.int .i64 l, .int .i64 h], .bool s, .int .i64 m] w fun e w' => e = .returned (.tuple #[.agg #[.int .i64 lo, .int .i64 x], .bool t]) ∧ Ext W w' := by
  rw [← hx0, ← ht]
  exact b_ibelow lo hi l h s m W w hx
theorem b_iwithoutl (lo hi v x y : Int) (t : Bool) (hx0 : pwlo wrap64 lo hi v = x) (hy0 : pwhi wrap64 lo hi v = y) (ht : (!((lo == v) && (hi == v))) = t) (W w : World) (hx : Ext W w) :
    Calls Tryz.prog 91 #[.agg #[.int .i64 lo, .int .i64 hi], .int .i64 v] w fun e w' => e = .returned (.tuple #[.agg #[.int .i64 x, .int .i64 y], .bool t]) ∧ Ext W w' := by
  rw [← hx0, ← hy0, ← ht]
  exact b_iwithout lo hi v W w hx
end Go.Proofs.YtcfnglbcgkappaaGreat

/- Plain laws for BoundsGiven. No walk is in here. -/
set_option linter.unusedVariables false
set_option linter.unusedSimpArgs false
namespace Go.Proofs.YtcfnglbcgkappaaGreat
open Go.RowKit

theorem zs_64 (v : Int) : zs v 64 = s64 v := by simp [zs, zcut, zsign]
theorem zhold_bhold {cc v w : Int} (h : zhold cc 64 v w = true) : bhold cc v w = true := by
  unfold zhold at h
  rw [zcut_64, zcut_64, zs_64, zs_64] at h
  unfold bhold
  by_cases c0 : cc = 0
  · rw [if_pos c0] at h ⊢; simpa using h
  rw [if_neg c0] at h ⊢
  by_cases c1 : cc = 1
  · rw [if_pos c1] at h ⊢; simpa using h
  rw [if_neg c1] at h ⊢
  by_cases c2 : cc = 2
  · rw [if_pos c2] at h ⊢; exact h
  rw [if_neg c2] at h ⊢
  by_cases c3 : cc = 3
  · rw [if_pos c3] at h ⊢; exact h
  rw [if_neg c3] at h ⊢
  by_cases c4 : cc = 4
  · rw [if_pos c4] at h ⊢; exact h
  rw [if_neg c4] at h ⊢
  by_cases c5 : cc = 5
  · rw [if_pos c5] at h ⊢; exact h
  rw [if_neg c5] at h ⊢
  by_cases c6 : cc = 6
  · rw [if_pos c6] at h ⊢; exact h
  rw [if_neg c6] at h ⊢
  by_cases c7 : cc = 7
  · rw [if_pos c7] at h ⊢; exact h
  rw [if_neg c7] at h ⊢
  by_cases c8 : cc = 8
  · rw [if_pos c8] at h ⊢; exact h
  rw [if_neg c8] at h ⊢
  by_cases c9 : cc = 9
  · rw [if_pos c9] at h ⊢; exact h
  rw [if_neg c9]
theorem sub_brng (cc : Int) (a b : Rg) : (brng cc a b).Sub a := by
  have hr := Rg.Sub.refl a
  unfold brng
  generalize s64 b.ul = t
  by_cases c1 : cc = 1
  · rw [if_pos c1]
    by_cases hs : bones b = true
    · rw [if_pos hs]
      unfold Rg.Sub
      refine ⟨?_, ?_, ?_, ?_⟩ <;> simp only <;> split <;> omega
    · rw [if_neg hs]; exact hr
  rw [if_neg c1]
  by_cases c2 : cc = 2
  · rw [if_pos c2]; unfold Rg.Sub; simp only; omega
  rw [if_neg c2]
  by_cases c3 : cc = 3
  · rw [if_pos c3]; unfold Rg.Sub; simp only; omega
  rw [if_neg c3]
  by_cases c4 : cc = 4
  · rw [if_pos c4]; unfold Rg.Sub; simp only; omega
  rw [if_neg c4]
  by_cases c5 : cc = 5
  · rw [if_pos c5]; unfold Rg.Sub; simp only; omega
  rw [if_neg c5]
  by_cases c6 : cc = 6
  · rw [if_pos c6]; unfold Rg.Sub; simp only; omega
  rw [if_neg c6]
  by_cases c7 : cc = 7
  · rw [if_pos c7]; unfold Rg.Sub; simp only; omega
  rw [if_neg c7]
  by_cases c8 : cc = 8
  · rw [if_pos c8]; unfold Rg.Sub; simp only; omega
  rw [if_neg c8]
  by_cases c9 : cc = 9
  · rw [if_pos c9]; unfold Rg.Sub; simp only; omega
  rw [if_neg c9]
  exact hr
theorem bgood_of {cc : Int} {a b : Rg} (h : bgok cc a b = true) : bgood cc a b = true := by unfold bgok at h; rw [Bool.and_eq_true] at h; exact h.1
theorem giv_in {cc : Int} {a b : Rg} (h : bgok cc a b = true) : bin (bgiv cc a b) a = true := by
  have hg := bgood_of h
  have hma : bmay a = true := by unfold bgood at hg; rw [Bool.and_eq_true] at hg; exact hg.1
  unfold bgiv
  rw [if_pos h]
  unfold bgok at h
  rw [hg, Bool.true_and] at h
  by_cases c0 : cc = 0
  · rw [if_pos c0] at h ⊢
    exact bin_of (sub_meet h).2 hma (sub_meet h).1
  · rw [if_neg c0] at h ⊢
    rw [Bool.and_eq_true] at h
    exact bin_of (bmay_bnar h.2) hma ((sub_bnar h.2).trans (sub_brng cc a b))
theorem giv_has {cc : Int} {a b : Rg} {v w : Int} (ha : a.wf) (hb : b.wf) (v0 : 0 ≤ v) (v1 : v ≤ 18446744073709551615) (w0 : 0 ≤ w) (w1 : w ≤ 18446744073709551615)
    (h1 : bhas a v = true) (h2 : bhas b w = true) (c0 : 0 ≤ cc) (c1 : cc ≤ 10) (hy : bhold cc v w = true) : bgok cc a b = true ∧ bhas (bgiv cc a b) v = true := by
  have hg : bgood cc a b = true := by
    unfold bgood
    rw [bhas_may h1, bhas_may h2, decide_eq_true c0, decide_eq_true c1]; rfl
  by_cases c : cc = 0
  · have e : v = w := by
      unfold bhold at hy
      rw [if_pos c] at hy
      exact of_decide_eq_true hy
    subst e
    have hm := has_meet ha hb v0 v1 h2
    rw [h1] at hm
    have hm := hm.symm
    rw [Bool.and_eq_true] at hm
    have hk : bgok cc a b = true := by
      unfold bgok
      rw [hg, if_pos c, hm.1]; rfl
    refine ⟨hk, ?_⟩
    unfold bgiv
    rw [if_pos hk, if_pos c]
    exact hm.2
  · have hr := rng_has v0 v1 w0 w1 hb h1 h2 hy c
    have hw := wf_brng ha hb (bhas_may h1) (bhas_may h2) hr.1
    have hn := bhas_nok hw v0 v1 hr.2
    have hk : bgok cc a b = true := by
      unfold bgok
      rw [hg, if_neg c, hr.1, hn]; rfl
    refine ⟨hk, ?_⟩
    unfold bgiv
    rw [if_pos hk, if_neg c, bhas_bnar hw v0 v1 hn]
    exact hr.2
end Go.Proofs.YtcfnglbcgkappaaGreat
