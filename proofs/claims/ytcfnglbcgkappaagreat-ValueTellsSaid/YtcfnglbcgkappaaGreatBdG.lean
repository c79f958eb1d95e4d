/- Ranges joined, met, within, under a condition: plain laws. No walk is in here. -/
import Derived.Test.YtcfnglbcgkappaaGreatBdD
set_option linter.unusedVariables false
set_option linter.unusedSimpArgs false
namespace Go.Proofs.YtcfnglbcgkappaaGreat
open Go.RowKit

theorem has_join1 {a b : Rg} {v : Int} (h1 : bhas a v = true) (h2 : bmay b = true) : bhas (bjoin a b) v = true := by
  unfold bjoin
  rw [if_pos ⟨bhas_may h1, h2⟩]
  rw [bhas_iff] at h1 ⊢
  unfold bjoin0
  simp only
  omega
theorem has_join2 {a b : Rg} {v : Int} (h1 : bmay a = true) (h2 : bhas b v = true) : bhas (bjoin a b) v = true := by
  unfold bjoin
  rw [if_pos ⟨h1, bhas_may h2⟩]
  rw [bhas_iff] at h2 ⊢
  unfold bjoin0
  simp only
  omega
theorem bin_iff {a b : Rg} : bin a b = true ↔ (bmay a = true ∧ bmay b = true) ∧ b.ul ≤ a.ul ∧ a.uh ≤ b.uh ∧ b.sl ≤ a.sl ∧ a.sh ≤ b.sh := by
  unfold bin
  rw [Bool.and_eq_true, Bool.and_eq_true, decide_eq_true_eq]
  constructor
  · rintro ⟨h1, h2, h3⟩
    refine ⟨⟨h1, h2⟩, ?_⟩
    unfold bjoin at h3
    rw [if_pos ⟨h1, h2⟩] at h3
    obtain ⟨b1, b2, b3, b4⟩ := b
    simp only [bjoin0, Rg.mk.injEq] at h3 ⊢
    omega
  · rintro ⟨⟨h1, h2⟩, h3⟩
    refine ⟨h1, h2, ?_⟩
    unfold bjoin
    rw [if_pos ⟨h1, h2⟩]
    obtain ⟨b1, b2, b3, b4⟩ := b
    simp only [bjoin0, Rg.mk.injEq] at h3 ⊢
    omega
/-- Narrower. -/
def Rg.Sub (a b : Rg) : Prop := b.ul ≤ a.ul ∧ a.uh ≤ b.uh ∧ b.sl ≤ a.sl ∧ a.sh ≤ b.sh
theorem Rg.Sub.refl (a : Rg) : a.Sub a := ⟨Int.le_refl _, Int.le_refl _, Int.le_refl _, Int.le_refl _⟩
theorem Rg.Sub.trans {a b c : Rg} (h : a.Sub b) (g : b.Sub c) : a.Sub c := by
  obtain ⟨h1, h2, h3, h4⟩ := h
  obtain ⟨g1, g2, g3, g4⟩ := g
  exact ⟨by omega, by omega, by omega, by omega⟩
theorem sub_bsgn (r : Rg) : (bsgn r).Sub r := by
  unfold bsgn
  split
  · unfold Rg.Sub; simp only; omega
  · exact Rg.Sub.refl r
theorem sub_buns (r : Rg) : (buns r).Sub r := by
  unfold buns
  split
  · unfold Rg.Sub; simp only; omega
  · exact Rg.Sub.refl r
theorem sub_bnar {r : Rg} (h : bnok r = true) : (bnar r).Sub r := by
  unfold bnar
  rw [if_pos h]
  exact (sub_bsgn _).trans ((sub_buns _).trans (sub_bsgn _))
theorem bin_of {a b : Rg} (h1 : bmay a = true) (h2 : bmay b = true) (h : a.Sub b) : bin a b = true := bin_iff.2 ⟨⟨h1, h2⟩, h⟩
theorem bnok_may {r : Rg} (h : bnok r = true) : bmay r = true := by unfold bnok at h; rw [Bool.and_eq_true] at h; exact h.1
theorem bin_nar {r : Rg} (h : bnok r = true) : bin (bnar r) r = true := bin_of (bmay_bnar h) (bnok_may h) (sub_bnar h)
theorem wf_meet0 {a b : Rg} (ha : a.wf) (hb : b.wf) : (bmeet0 a b).wf := by
  obtain ⟨a1, a2, a3, a4⟩ := ha
  obtain ⟨b1, b2, b3, b4⟩ := hb
  unfold bmeet0
  refine ⟨?_, ?_, ?_, ?_⟩ <;> simp only <;> omega
theorem has_meet0 {a b : Rg} {v : Int} : bhas (bmeet0 a b) v = (bhas a v && bhas b v) := by
  rw [Bool.eq_iff_iff, Bool.and_eq_true, bhas_iff, bhas_iff, bhas_iff]
  unfold bmeet0
  simp only
  omega
theorem has_meet {a b : Rg} (ha : a.wf) (hb : b.wf) {v : Int} (v0 : 0 ≤ v) (v1 : v ≤ 18446744073709551615) (h : bhas b v = true) : bhas a v = (bmeets a b && bhas (bmeet a b) v) := by
  have e := has_meet0 (a := a) (b := b) (v := v)
  rw [h, Bool.and_true] at e
  cases hm : bmeets a b
  · rw [Bool.false_and]
    cases hv : bhas a v
    · rfl
    · exfalso
      rw [hv] at e
      have := bhas_nok (wf_meet0 ha hb) v0 v1 e
      simp [bmeets, bhas_may hv, bhas_may h, this] at hm
  · rw [Bool.true_and]
    unfold bmeet
    rw [if_pos hm]
    unfold bmeets at hm
    simp only [Bool.and_eq_true] at hm
    rw [bhas_bnar (wf_meet0 ha hb) v0 v1 hm.2.2, e]
theorem sub_meet {a b : Rg} (h : bmeets a b = true) : (bmeet a b).Sub a ∧ bmay (bmeet a b) = true := by
  have h' := h
  unfold bmeets at h'
  simp only [Bool.and_eq_true] at h'
  unfold bmeet
  rw [if_pos h]
  refine ⟨(sub_bnar h'.2.2).trans ?_, bmay_bnar h'.2.2⟩
  unfold Rg.Sub bmeet0
  simp only
  omega
def blow (r : Rg) : Rg := if bmay r = true ∧ r.uh ≤ 4294967295 then r else bnar (bu 0 4294967295)
theorem has_low {r : Rg} {v : Int} (v0 : 0 ≤ v) (h : bhas r v = true) : bhas (blow r) (v % 4294967296) = true := by
  unfold blow
  split
  · rename_i hh
    have := (bhas_iff r v).1 h
    rw [show v % 4294967296 = v by omega]
    exact h
  · exact has_nar (wf_bu (by omega) (by omega) (by omega) (by omega)) (by omega) (by omega) (has_bu (by omega) (by omega))

def bhold (cc v w : Int) : Bool :=
  if cc = 0 then decide (v = w) else if cc = 1 then !decide (v = w) else if cc = 2 then decide (w < v) else if cc = 3 then decide (w ≤ v) else if cc = 4 then decide (v < w) else if cc = 5 then decide (v ≤ w)
  else if cc = 6 then decide (s64 w < s64 v) else if cc = 7 then decide (s64 w ≤ s64 v) else if cc = 8 then decide (s64 v < s64 w) else if cc = 9 then decide (s64 v ≤ s64 w) else true
def bcan (cc : Int) (a b : Rg) : Bool :=
  if cc = 1 then (if bones b = true then !decide (a.ul = b.ul ∧ a.uh = b.ul) && !decide (a.sl = s64 b.ul ∧ a.sh = s64 b.ul) else true)
  else if cc = 2 then !decide (b.ul = 18446744073709551615) else if cc = 4 then !decide (b.uh = 0) else if cc = 6 then !decide (b.sl = 9223372036854775807) else if cc = 8 then !decide (b.sh = -9223372036854775808) else true
def brng (cc : Int) (a b : Rg) : Rg :=
  if cc = 1 then (if bones b = true then ⟨if a.ul = b.ul then a.ul + 1 else a.ul, if a.ul ≠ b.ul ∧ a.uh = b.ul then a.uh - 1 else a.uh, if a.sl = s64 b.ul then a.sl + 1 else a.sl, if a.sl ≠ s64 b.ul ∧ a.sh = s64 b.ul then a.sh - 1 else a.sh⟩ else a)
  else if cc = 2 then ⟨max a.ul (b.ul + 1), a.uh, a.sl, a.sh⟩ else if cc = 3 then ⟨max a.ul b.ul, a.uh, a.sl, a.sh⟩
  else if cc = 4 then ⟨a.ul, min a.uh (b.uh - 1), a.sl, a.sh⟩ else if cc = 5 then ⟨a.ul, min a.uh b.uh, a.sl, a.sh⟩
  else if cc = 6 then ⟨a.ul, a.uh, max a.sl (b.sl + 1), a.sh⟩ else if cc = 7 then ⟨a.ul, a.uh, max a.sl b.sl, a.sh⟩
  else if cc = 8 then ⟨a.ul, a.uh, a.sl, min a.sh (b.sh - 1)⟩ else if cc = 9 then ⟨a.ul, a.uh, a.sl, min a.sh b.sh⟩ else a
def bgood (cc : Int) (a b : Rg) : Bool := bmay a && (bmay b && (decide (0 ≤ cc) && decide (cc ≤ 10)))
def bgok (cc : Int) (a b : Rg) : Bool := bgood cc a b && (if cc = 0 then bmeets a b else bcan cc a b && bnok (brng cc a b))
def bgiv (cc : Int) (a b : Rg) : Rg := if bgok cc a b = true then (if cc = 0 then bmeet a b else bnar (brng cc a b)) else ball

theorem s64_inj {v w : Int} (v0 : 0 ≤ v) (v1 : v ≤ 18446744073709551615) (w0 : 0 ≤ w) (w1 : w ≤ 18446744073709551615) (h : s64 v = s64 w) : v = w := by
  rw [s64_eq v0 v1, s64_eq w0 w1] at h
  split at h <;> split at h <;> omega
/-- What stands to something of b as a condition says is in the range under it; there is one. -/
theorem rng_has {cc : Int} {a b : Rg} {v w : Int} (v0 : 0 ≤ v) (v1 : v ≤ 18446744073709551615) (w0 : 0 ≤ w) (w1 : w ≤ 18446744073709551615) (hb : b.wf)
    (h1 : bhas a v = true) (h2 : bhas b w = true) (hy : bhold cc v w = true) (c0 : cc ≠ 0) : bcan cc a b = true ∧ bhas (brng cc a b) v = true := by
  have x1 := (bhas_iff a v).1 h1
  have x2 := (bhas_iff b w).1 h2
  have sv := s64_bd v
  have sw := s64_bd w
  obtain ⟨b1, b2, b3, b4⟩ := hb
  rw [bhas_iff]
  unfold bhold at hy
  unfold bcan brng
  rw [if_neg c0] at hy
  by_cases c1 : cc = 1
  · rw [if_pos c1] at hy ⊢
    rw [if_pos c1]
    by_cases hs : bones b = true
    · rw [if_pos hs, if_pos hs]
      have e := bone_only hs w0 w1
      rw [h2] at e
      have e := of_decide_eq_true e.symm
      have hne : v ≠ b.ul := by rw [← e]; simpa using hy
      have hns : s64 v ≠ s64 b.ul := fun h => hne (s64_inj v0 v1 (by omega) (by omega) h)
      generalize s64 b.ul = t at *
      generalize s64 v = s at *
      refine ⟨?_, ?_⟩
      · simp only [Bool.and_eq_true, Bool.not_eq_true', decide_eq_false_iff_not]
        omega
      · simp only
        refine ⟨?_, ?_, ?_, ?_⟩ <;> split <;> omega
    · rw [if_neg hs, if_neg hs]
      exact ⟨rfl, x1⟩
  rw [if_neg c1] at hy ⊢
  rw [if_neg c1]
  generalize s64 v = s at *
  generalize s64 w = t at *
  by_cases c2 : cc = 2
  · rw [if_pos c2] at hy ⊢
    rw [if_pos c2]
    have hy := of_decide_eq_true hy
    exact ⟨by simp only [Bool.not_eq_true', decide_eq_false_iff_not]; omega, by simp only; omega⟩
  rw [if_neg c2] at hy ⊢
  rw [if_neg c2]
  by_cases c3 : cc = 3
  · subst c3
    have hy : w ≤ v := by simpa using hy
    simp
    omega
  rw [if_neg c3] at hy
  rw [if_neg c3]
  by_cases c4 : cc = 4
  · rw [if_pos c4] at hy ⊢
    rw [if_pos c4]
    have hy := of_decide_eq_true hy
    exact ⟨by simp only [Bool.not_eq_true', decide_eq_false_iff_not]; omega, by simp only; omega⟩
  rw [if_neg c4] at hy ⊢
  rw [if_neg c4]
  by_cases c5 : cc = 5
  · subst c5
    have hy : v ≤ w := by simpa using hy
    simp
    omega
  rw [if_neg c5] at hy
  rw [if_neg c5]
  by_cases c6 : cc = 6
  · rw [if_pos c6] at hy ⊢
    rw [if_pos c6]
    have hy := of_decide_eq_true hy
    exact ⟨by simp only [Bool.not_eq_true', decide_eq_false_iff_not]; omega, by simp only; omega⟩
  rw [if_neg c6] at hy ⊢
  rw [if_neg c6]
  by_cases c7 : cc = 7
  · subst c7
    have hy : t ≤ s := by simpa using hy
    simp
    omega
  rw [if_neg c7] at hy
  rw [if_neg c7]
  by_cases c8 : cc = 8
  · rw [if_pos c8] at hy ⊢
    rw [if_pos c8]
    have hy := of_decide_eq_true hy
    exact ⟨by simp only [Bool.not_eq_true', decide_eq_false_iff_not]; omega, by simp only; omega⟩
  rw [if_neg c8] at hy ⊢
  rw [if_neg c8]
  by_cases c9 : cc = 9
  · subst c9
    have hy : s ≤ t := by simpa using hy
    simp
    omega
  rw [if_neg c9]
  exact ⟨rfl, x1⟩
end Go.Proofs.YtcfnglbcgkappaaGreat
