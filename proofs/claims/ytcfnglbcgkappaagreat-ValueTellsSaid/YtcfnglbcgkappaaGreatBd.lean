/- Ranges as four numbers; what the small functions of package bounds come to; plain laws. No walk is in here. -/
import Derived.Test.YtcfnglbcgkappaaGreatBitsM
set_option linter.unusedVariables false
set_option linter.unusedSimpArgs false
namespace Go.Proofs.YtcfnglbcgkappaaGreat
open Go.RowKit

structure Rg where
  ul : Int
  uh : Int
  sl : Int
  sh : Int
  deriving DecidableEq
def Rg.wf (r : Rg) : Prop := (0 ≤ r.ul ∧ r.ul ≤ 18446744073709551615) ∧ (0 ≤ r.uh ∧ r.uh ≤ 18446744073709551615) ∧ (-9223372036854775808 ≤ r.sl ∧ r.sl ≤ 9223372036854775807) ∧ (-9223372036854775808 ≤ r.sh ∧ r.sh ≤ 9223372036854775807)
abbrev s64 (v : Int) : Int := wrap64 v
theorem s64_wrap (v : Int) : s64 v = IntKind.i64.wrap v := (Go.IntWalk.i64_left v).symm
abbrev u64 (v : Int) : Int := IntKind.u64.wrap v
theorem s64_eq {v : Int} (h0 : 0 ≤ v) (h1 : v ≤ 18446744073709551615) : s64 v = if v < 9223372036854775808 then v else v - 18446744073709551616 := by
  rw [s64_wrap, w_i64]
  split <;> omega
theorem s64_bd (v : Int) : -9223372036854775808 ≤ s64 v ∧ s64 v ≤ 9223372036854775807 := by
  rw [s64_wrap, w_i64]
  omega
theorem u64_eq {v : Int} (h0 : -9223372036854775808 ≤ v) (h1 : v ≤ 9223372036854775807) : u64 v = if 0 ≤ v then v else v + 18446744073709551616 := by
  unfold u64
  rw [w_u64]
  split <;> omega
theorem u64_bd (v : Int) : 0 ≤ u64 v ∧ u64 v ≤ 18446744073709551615 := by
  unfold u64
  rw [w_u64]
  omega
def ball : Rg := ⟨0, 18446744073709551615, -9223372036854775808, 9223372036854775807⟩
def bone (v : Int) : Rg := ⟨v, v, s64 v, s64 v⟩
def bmay (r : Rg) : Bool := decide (r.ul ≤ r.uh) && decide (r.sl ≤ r.sh)
def bhas (r : Rg) (v : Int) : Bool := bmay r && ((decide (r.ul ≤ v) && decide (v ≤ r.uh)) && (decide (r.sl ≤ s64 v) && decide (s64 v ≤ r.sh)))
def hib (v : Int) : Bool := decide (9223372036854775808 ≤ v)
def bsgn (r : Rg) : Rg := if hib r.ul = hib r.uh then ⟨r.ul, r.uh, max r.sl (s64 r.ul), min r.sh (s64 r.uh)⟩ else r
def buns (r : Rg) : Rg := if decide (r.sl < 0) = decide (r.sh < 0) then ⟨max r.ul (u64 r.sl), min r.uh (u64 r.sh), r.sl, r.sh⟩ else r
/-- The range ahead of a turn. -/
def bnst (k : Nat) (r : Rg) : Rg := if k = 0 then r else if k = 1 then bsgn r else if k = 2 then buns (bsgn r) else bsgn (buns (bsgn r))
def bnok (r : Rg) : Bool := bmay r && (bmay (bsgn r) && (bmay (buns (bsgn r)) && bmay (bsgn (buns (bsgn r)))))
def bnar (r : Rg) : Rg := if bnok r = true then bsgn (buns (bsgn r)) else ball
def bones (r : Rg) : Bool := decide (r.ul = r.uh) && bhas r r.ul
def bsingle (r : Rg) : Int := if bones r = true then r.ul else 0
def bjoin0 (a b : Rg) : Rg := ⟨min a.ul b.ul, max a.uh b.uh, min a.sl b.sl, max a.sh b.sh⟩
def bmeet0 (a b : Rg) : Rg := ⟨max a.ul b.ul, min a.uh b.uh, max a.sl b.sl, min a.sh b.sh⟩
def bjoin (a b : Rg) : Rg := if bmay a = true ∧ bmay b = true then bjoin0 a b else ball
def bmeets (a b : Rg) : Bool := bmay a && (bmay b && bnok (bmeet0 a b))
def bmeet (a b : Rg) : Rg := if bmeets a b = true then bnar (bmeet0 a b) else ball
def bin (a b : Rg) : Bool := bmay a && (bmay b && decide (bjoin a b = b))

theorem bmay_iff (r : Rg) : bmay r = true ↔ r.ul ≤ r.uh ∧ r.sl ≤ r.sh := by simp [bmay]
theorem bhas_iff (r : Rg) (v : Int) : bhas r v = true ↔ r.ul ≤ v ∧ v ≤ r.uh ∧ r.sl ≤ s64 v ∧ s64 v ≤ r.sh := by
  simp only [bhas, bmay, Bool.and_eq_true, decide_eq_true_eq]
  constructor
  · rintro ⟨_, ⟨h1, h2⟩, h3, h4⟩; exact ⟨h1, h2, h3, h4⟩
  · rintro ⟨h1, h2, h3, h4⟩; exact ⟨⟨by omega, by omega⟩, ⟨h1, h2⟩, h3, h4⟩
theorem hib_eq (a b : Int) : hib a = hib b ↔ (9223372036854775808 ≤ a ↔ 9223372036854775808 ≤ b) := by
  unfold hib
  exact decide_eq_decide
theorem wf_bsgn {r : Rg} (h : r.wf) : (bsgn r).wf := by
  unfold bsgn
  split
  · have h1 := s64_bd r.ul
    have h2 := s64_bd r.uh
    obtain ⟨a1, a2, a3, a4⟩ := h
    refine ⟨a1, a2, ?_, ?_⟩ <;> simp only <;> omega
  · exact h
theorem wf_buns {r : Rg} (h : r.wf) : (buns r).wf := by
  unfold buns
  split
  · have h1 := u64_bd r.sl
    have h2 := u64_bd r.sh
    obtain ⟨a1, a2, a3, a4⟩ := h
    refine ⟨?_, ?_, a3, a4⟩ <;> simp only <;> omega
  · exact h
theorem wf_ball : ball.wf := by unfold Rg.wf ball; simp
theorem wf_bnar {r : Rg} (h : r.wf) : (bnar r).wf := by
  unfold bnar
  split
  · exact wf_bsgn (wf_buns (wf_bsgn h))
  · exact wf_ball
theorem wf_bone {v : Int} (h0 : 0 ≤ v) (h1 : v ≤ 18446744073709551615) : (bone v).wf := ⟨⟨h0, h1⟩, ⟨h0, h1⟩, s64_bd v, s64_bd v⟩
theorem bhas_bsgn {r : Rg} (h : r.wf) {v : Int} (h0 : 0 ≤ v) (h1 : v ≤ 18446744073709551615) : bhas (bsgn r) v = bhas r v := by
  rw [Bool.eq_iff_iff, bhas_iff, bhas_iff]
  unfold bsgn
  split
  · rename_i hh
    rw [hib_eq] at hh
    obtain ⟨a1, a2, a3, a4⟩ := h
    simp only
    rw [s64_eq h0 h1, s64_eq a1.1 a1.2, s64_eq a2.1 a2.2]
    split <;> split <;> split <;> omega
  · exact Iff.rfl
theorem bhas_buns {r : Rg} (h : r.wf) {v : Int} (h0 : 0 ≤ v) (h1 : v ≤ 18446744073709551615) : bhas (buns r) v = bhas r v := by
  rw [Bool.eq_iff_iff, bhas_iff, bhas_iff]
  unfold buns
  split
  · rename_i hh
    rw [decide_eq_decide] at hh
    obtain ⟨a1, a2, a3, a4⟩ := h
    simp only
    rw [s64_eq h0 h1, u64_eq a3.1 a3.2, u64_eq a4.1 a4.2]
    split <;> split <;> split <;> omega
  · exact Iff.rfl
theorem bhas_may {r : Rg} {v : Int} (h : bhas r v = true) : bmay r = true := by unfold bhas at h; rw [Bool.and_eq_true] at h; exact h.1
theorem bhas_nok {r : Rg} (h : r.wf) {v : Int} (h0 : 0 ≤ v) (h1 : v ≤ 18446744073709551615) (hv : bhas r v = true) : bnok r = true := by
  have e1 := bhas_bsgn h h0 h1
  have e2 := bhas_buns (wf_bsgn h) h0 h1
  have e3 := bhas_bsgn (wf_buns (wf_bsgn h)) h0 h1
  rw [hv] at e1
  rw [e1] at e2
  rw [e2] at e3
  simp [bnok, bhas_may hv, bhas_may e1, bhas_may e2, bhas_may e3]
theorem bhas_bnar {r : Rg} (h : r.wf) {v : Int} (h0 : 0 ≤ v) (h1 : v ≤ 18446744073709551615) (hk : bnok r = true) : bhas (bnar r) v = bhas r v := by
  unfold bnar
  rw [if_pos hk, bhas_bsgn (wf_buns (wf_bsgn h)) h0 h1, bhas_buns (wf_bsgn h) h0 h1, bhas_bsgn h h0 h1]
theorem bmay_bnar {r : Rg} (hk : bnok r = true) : bmay (bnar r) = true := by
  have := hk
  unfold bnok at this
  simp only [Bool.and_eq_true] at this
  unfold bnar
  rw [if_pos hk]
  exact this.2.2.2
theorem bone_only {r : Rg} {v : Int} (h : bones r = true) (h0 : 0 ≤ v) (h1 : v ≤ 18446744073709551615) : bhas r v = decide (v = r.ul) := by
  unfold bones at h
  rw [Bool.and_eq_true, decide_eq_true_eq] at h
  obtain ⟨e, hh⟩ := h
  by_cases hv : v = r.ul
  · rw [hv, hh]; simp
  · rw [decide_eq_false hv]
    cases hb : bhas r v
    · rfl
    · have := (bhas_iff r v).1 hb
      omega
end Go.Proofs.YtcfnglbcgkappaaGreat
