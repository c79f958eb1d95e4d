/- Texts BitsA, BitsB, BitsC, BitsM, Bd, BdL, BdD, BdG in one. -/
import Derived.Test.YtgfghplnankgnaaRows
import Derived.Test.YtgfghplnankgnaaLib
import Derived.WalkKit
import Derived.WalkSpells
import Derived.WalkLawsBesides
import Derived.Laws.EntriesVeiled
/- The walks of package bits: widths, cuts and signs, on integers. -/
set_option linter.unusedVariables false
set_option linter.unusedSimpArgs false
namespace Go.Proofs.Ytgfghplnankgnaa
open Go.RowKit

def zcut (v a : Int) : Int := if a = 8 then v % 256 else if a = 16 then v % 65536 else if a = 32 then v % 4294967296 else v
def zsgn (v b : Int) : Int := if v % (2 * b) < b then v % (2 * b) else 18446744073709551616 - 2 * b + v % (2 * b)
def zsign (v a : Int) : Int := if a = 8 then zsgn v 128 else if a = 16 then zsgn v 32768 else if a = 32 then zsgn v 2147483648 else v

end Go.Proofs.Ytgfghplnankgnaa


/- The walk of bits.Do and of the reference's Do: both compute zdo. -/
set_option linter.unusedVariables false
set_option linter.unusedSimpArgs false
namespace Go.Proofs.Ytgfghplnankgnaa
open Go.RowKit

end Go.Proofs.Ytgfghplnankgnaa


/- The walk of bits.Do and of the reference's Do: both compute zdo. -/
set_option linter.unusedVariables false
set_option linter.unusedSimpArgs false
namespace Go.Proofs.Ytgfghplnankgnaa
open Go.RowKit
end Go.Proofs.Ytgfghplnankgnaa


/- Plain laws of zdo: what the operations come to. No walk is in here. -/
set_option linter.unusedVariables false
set_option linter.unusedSimpArgs false
namespace Go.Proofs.Ytgfghplnankgnaa
open Go.RowKit

end Go.Proofs.Ytgfghplnankgnaa


/- Ranges as four numbers; what the small functions of package bounds come to; plain laws. No walk is in here. -/
set_option linter.unusedVariables false
set_option linter.unusedSimpArgs false
namespace Go.Proofs.Ytgfghplnankgnaa
open Go.RowKit

structure Rg where
  ul : Int
  uh : Int
  sl : Int
  sh : Int
  deriving DecidableEq
def Rg.wf (r : Rg) : Prop := (0 ≤ r.ul ∧ r.ul ≤ 18446744073709551615) ∧ (0 ≤ r.uh ∧ r.uh ≤ 18446744073709551615) ∧ (-9223372036854775808 ≤ r.sl ∧ r.sl ≤ 9223372036854775807) ∧ (-9223372036854775808 ≤ r.sh ∧ r.sh ≤ 9223372036854775807)
abbrev s64 (v : Int) : Int := wrap64 v
theorem s64_wrap (v : Int) : s64 v = IntKind.i64.wrap v := (Go.IntWalk.i64_left v).symm
abbrev u64 (v : Int) : Int := IntKind.u64.wrap v
theorem s64_eq {v : Int} (h0 : 0 ≤ v) (h1 : v ≤ 18446744073709551615) : s64 v = if v < 9223372036854775808 then v else v - 18446744073709551616 := by
  rw [s64_wrap, w_i64]
  split <;> omega
theorem s64_bd (v : Int) : -9223372036854775808 ≤ s64 v ∧ s64 v ≤ 9223372036854775807 := by
  rw [s64_wrap, w_i64]
  omega
theorem u64_eq {v : Int} (h0 : -9223372036854775808 ≤ v) (h1 : v ≤ 9223372036854775807) : u64 v = if 0 ≤ v then v else v + 18446744073709551616 := by
  unfold u64
  rw [w_u64]
  split <;> omega
theorem u64_bd (v : Int) : 0 ≤ u64 v ∧ u64 v ≤ 18446744073709551615 := by
  unfold u64
  rw [w_u64]
  omega
def ball : Rg := ⟨0, 18446744073709551615, -9223372036854775808, 9223372036854775807⟩
def bone (v : Int) : Rg := ⟨v, v, s64 v, s64 v⟩
def bmay (r : Rg) : Bool := decide (r.ul ≤ r.uh) && decide (r.sl ≤ r.sh)
def bhas (r : Rg) (v : Int) : Bool := bmay r && ((decide (r.ul ≤ v) && decide (v ≤ r.uh)) && (decide (r.sl ≤ s64 v) && decide (s64 v ≤ r.sh)))
def hib (v : Int) : Bool := decide (9223372036854775808 ≤ v)
def bsgn (r : Rg) : Rg := if hib r.ul = hib r.uh then ⟨r.ul, r.uh, max r.sl (s64 r.ul), min r.sh (s64 r.uh)⟩ else r
def buns (r : Rg) : Rg := if decide (r.sl < 0) = decide (r.sh < 0) then ⟨max r.ul (u64 r.sl), min r.uh (u64 r.sh), r.sl, r.sh⟩ else r
def bnok (r : Rg) : Bool := bmay r && (bmay (bsgn r) && (bmay (buns (bsgn r)) && bmay (bsgn (buns (bsgn r)))))
def bnar (r : Rg) : Rg := if bnok r = true then bsgn (buns (bsgn r)) else ball
def bjoin0 (a b : Rg) : Rg := ⟨min a.ul b.ul, max a.uh b.uh, min a.sl b.sl, max a.sh b.sh⟩
def bmeet0 (a b : Rg) : Rg := ⟨max a.ul b.ul, min a.uh b.uh, max a.sl b.sl, min a.sh b.sh⟩
def bjoin (a b : Rg) : Rg := if bmay a = true ∧ bmay b = true then bjoin0 a b else ball
def bmeets (a b : Rg) : Bool := bmay a && (bmay b && bnok (bmeet0 a b))
def bmeet (a b : Rg) : Rg := if bmeets a b = true then bnar (bmeet0 a b) else ball
def bin (a b : Rg) : Bool := bmay a && (bmay b && decide (bjoin a b = b))

theorem bhas_iff (r : Rg) (v : Int) : bhas r v = true ↔ r.ul ≤ v ∧ v ≤ r.uh ∧ r.sl ≤ s64 v ∧ s64 v ≤ r.sh := by
  simp only [bhas, bmay, Bool.and_eq_true, decide_eq_true_eq]
  constructor
  · rintro ⟨_, ⟨h1, h2⟩, h3, h4⟩; exact ⟨h1, h2, h3, h4⟩
  · rintro ⟨h1, h2, h3, h4⟩; exact ⟨⟨by omega, by omega⟩, ⟨h1, h2⟩, h3, h4⟩
theorem hib_eq (a b : Int) : hib a = hib b ↔ (9223372036854775808 ≤ a ↔ 9223372036854775808 ≤ b) := by
  unfold hib
  exact decide_eq_decide
theorem wf_bsgn {r : Rg} (h : r.wf) : (bsgn r).wf := by
  unfold bsgn
  split
  · have h1 := s64_bd r.ul
    have h2 := s64_bd r.uh
    obtain ⟨a1, a2, a3, a4⟩ := h
    refine ⟨a1, a2, ?_, ?_⟩ <;> simp only <;> omega
  · exact h
theorem wf_buns {r : Rg} (h : r.wf) : (buns r).wf := by
  unfold buns
  split
  · have h1 := u64_bd r.sl
    have h2 := u64_bd r.sh
    obtain ⟨a1, a2, a3, a4⟩ := h
    refine ⟨?_, ?_, a3, a4⟩ <;> simp only <;> omega
  · exact h
theorem wf_ball : ball.wf := by unfold Rg.wf ball; simp
theorem wf_bnar {r : Rg} (h : r.wf) : (bnar r).wf := by
  unfold bnar
  split
  · exact wf_bsgn (wf_buns (wf_bsgn h))
  · exact wf_ball
theorem bhas_bsgn {r : Rg} (h : r.wf) {v : Int} (h0 : 0 ≤ v) (h1 : v ≤ 18446744073709551615) : bhas (bsgn r) v = bhas r v := by
  rw [Bool.eq_iff_iff, bhas_iff, bhas_iff]
  unfold bsgn
  split
  · rename_i hh
    rw [hib_eq] at hh
    obtain ⟨a1, a2, a3, a4⟩ := h
    simp only
    rw [s64_eq h0 h1, s64_eq a1.1 a1.2, s64_eq a2.1 a2.2]
    split <;> split <;> split <;> omega
  · exact Iff.rfl
theorem bhas_buns {r : Rg} (h : r.wf) {v : Int} (h0 : 0 ≤ v) (h1 : v ≤ 18446744073709551615) : bhas (buns r) v = bhas r v := by
  rw [Bool.eq_iff_iff, bhas_iff, bhas_iff]
  unfold buns
  split
  · rename_i hh
    rw [decide_eq_decide] at hh
    obtain ⟨a1, a2, a3, a4⟩ := h
    simp only
    rw [s64_eq h0 h1, u64_eq a3.1 a3.2, u64_eq a4.1 a4.2]
    split <;> split <;> split <;> omega
  · exact Iff.rfl
theorem bhas_may {r : Rg} {v : Int} (h : bhas r v = true) : bmay r = true := by unfold bhas at h; rw [Bool.and_eq_true] at h; exact h.1
theorem bhas_nok {r : Rg} (h : r.wf) {v : Int} (h0 : 0 ≤ v) (h1 : v ≤ 18446744073709551615) (hv : bhas r v = true) : bnok r = true := by
  have e1 := bhas_bsgn h h0 h1
  have e2 := bhas_buns (wf_bsgn h) h0 h1
  have e3 := bhas_bsgn (wf_buns (wf_bsgn h)) h0 h1
  rw [hv] at e1
  rw [e1] at e2
  rw [e2] at e3
  simp [bnok, bhas_may hv, bhas_may e1, bhas_may e2, bhas_may e3]
theorem bhas_bnar {r : Rg} (h : r.wf) {v : Int} (h0 : 0 ≤ v) (h1 : v ≤ 18446744073709551615) (hk : bnok r = true) : bhas (bnar r) v = bhas r v := by
  unfold bnar
  rw [if_pos hk, bhas_bsgn (wf_buns (wf_bsgn h)) h0 h1, bhas_buns (wf_bsgn h) h0 h1, bhas_bsgn h h0 h1]
theorem bmay_bnar {r : Rg} (hk : bnok r = true) : bmay (bnar r) = true := by
  have := hk
  unfold bnok at this
  simp only [Bool.and_eq_true] at this
  unfold bnar
  rw [if_pos hk]
  exact this.2.2.2
end Go.Proofs.Ytgfghplnankgnaa


/- Plain laws of ranges: sums, differences, bits, powers. No walk is in here. -/
set_option linter.unusedVariables false
set_option linter.unusedSimpArgs false
namespace Go.Proofs.Ytgfghplnankgnaa
open Go.RowKit

end Go.Proofs.Ytgfghplnankgnaa


/- Ranges of results: what Do comes to; each result is held. No walk is in here. -/
set_option linter.unusedVariables false
set_option linter.unusedSimpArgs false
namespace Go.Proofs.Ytgfghplnankgnaa
open Go.RowKit

def blenN (n : Nat) : Nat := if n = 0 then 0 else Nat.log2 n + 1
def bfill (v : Int) : Int := 2 ^ blenN v.toNat - 1
theorem blen_lt (n : Nat) : n < 2 ^ blenN n := by
  unfold blenN
  split
  · subst_vars; simp
  · exact Nat.lt_log2_self
theorem blen_ge {n : Nat} (h : n ≠ 0) : 2 ^ (blenN n - 1) ≤ n := by
  unfold blenN
  rw [if_neg h]
  exact Nat.log2_self_le h
theorem blen_le {n k : Nat} (h : n < 2 ^ k) : blenN n ≤ k := by
  rcases Nat.eq_zero_or_pos n with h0 | h0
  · simp [blenN, h0]
  · have h1 := blen_ge (n := n) (by omega)
    rcases Nat.lt_or_ge k (blenN n) with hk | hk
    · have : 2 ^ k ≤ 2 ^ (blenN n - 1) := Nat.pow_le_pow_right (by omega) (by omega)
      omega
    · exact hk
theorem bfill_bd {v : Int} (h : v ≤ 18446744073709551615) : 0 ≤ bfill v ∧ bfill v ≤ 18446744073709551615 := by
  have h1 : v.toNat < 2 ^ 64 := by omega
  have h2 := blen_le h1
  have h3 : 2 ^ blenN v.toNat ≤ 2 ^ 64 := Nat.pow_le_pow_right (by omega) h2
  have h4 : 0 < 2 ^ blenN v.toNat := Nat.pow_pos (by omega)
  unfold bfill
  have : ((2 : Int) ^ blenN v.toNat) = ((2 ^ blenN v.toNat : Nat) : Int) := by simp
  rw [this]
  omega
theorem has_ball (v : Int) (h0 : 0 ≤ v) (h1 : v ≤ 18446744073709551615) : bhas ball v = true := by
  rw [bhas_iff]
  have := s64_bd v
  exact ⟨h0, h1, this.1, this.2⟩
end Go.Proofs.Ytgfghplnankgnaa


/- Ranges joined, met, within, under a condition: plain laws. No walk is in here. -/
set_option linter.unusedVariables false
set_option linter.unusedSimpArgs false
namespace Go.Proofs.Ytgfghplnankgnaa
open Go.RowKit

theorem has_join1 {a b : Rg} {v : Int} (h1 : bhas a v = true) (h2 : bmay b = true) : bhas (bjoin a b) v = true := by
  unfold bjoin
  rw [if_pos ⟨bhas_may h1, h2⟩]
  rw [bhas_iff] at h1 ⊢
  unfold bjoin0
  simp only
  omega
theorem has_join2 {a b : Rg} {v : Int} (h1 : bmay a = true) (h2 : bhas b v = true) : bhas (bjoin a b) v = true := by
  unfold bjoin
  rw [if_pos ⟨h1, bhas_may h2⟩]
  rw [bhas_iff] at h2 ⊢
  unfold bjoin0
  simp only
  omega
theorem bin_iff {a b : Rg} : bin a b = true ↔ (bmay a = true ∧ bmay b = true) ∧ b.ul ≤ a.ul ∧ a.uh ≤ b.uh ∧ b.sl ≤ a.sl ∧ a.sh ≤ b.sh := by
  unfold bin
  rw [Bool.and_eq_true, Bool.and_eq_true, decide_eq_true_eq]
  constructor
  · rintro ⟨h1, h2, h3⟩
    refine ⟨⟨h1, h2⟩, ?_⟩
    unfold bjoin at h3
    rw [if_pos ⟨h1, h2⟩] at h3
    obtain ⟨b1, b2, b3, b4⟩ := b
    simp only [bjoin0, Rg.mk.injEq] at h3 ⊢
    omega
  · rintro ⟨⟨h1, h2⟩, h3⟩
    refine ⟨h1, h2, ?_⟩
    unfold bjoin
    rw [if_pos ⟨h1, h2⟩]
    obtain ⟨b1, b2, b3, b4⟩ := b
    simp only [bjoin0, Rg.mk.injEq] at h3 ⊢
    omega
/-- Narrower. -/
def Rg.Sub (a b : Rg) : Prop := b.ul ≤ a.ul ∧ a.uh ≤ b.uh ∧ b.sl ≤ a.sl ∧ a.sh ≤ b.sh
theorem Rg.Sub.refl (a : Rg) : a.Sub a := ⟨Int.le_refl _, Int.le_refl _, Int.le_refl _, Int.le_refl _⟩
theorem Rg.Sub.trans {a b c : Rg} (h : a.Sub b) (g : b.Sub c) : a.Sub c := by
  obtain ⟨h1, h2, h3, h4⟩ := h
  obtain ⟨g1, g2, g3, g4⟩ := g
  exact ⟨by omega, by omega, by omega, by omega⟩
theorem sub_bsgn (r : Rg) : (bsgn r).Sub r := by
  unfold bsgn
  split
  · unfold Rg.Sub; simp only; omega
  · exact Rg.Sub.refl r
theorem sub_buns (r : Rg) : (buns r).Sub r := by
  unfold buns
  split
  · unfold Rg.Sub; simp only; omega
  · exact Rg.Sub.refl r
theorem sub_bnar {r : Rg} (h : bnok r = true) : (bnar r).Sub r := by
  unfold bnar
  rw [if_pos h]
  exact (sub_bsgn _).trans ((sub_buns _).trans (sub_bsgn _))
theorem wf_meet0 {a b : Rg} (ha : a.wf) (hb : b.wf) : (bmeet0 a b).wf := by
  obtain ⟨a1, a2, a3, a4⟩ := ha
  obtain ⟨b1, b2, b3, b4⟩ := hb
  unfold bmeet0
  refine ⟨?_, ?_, ?_, ?_⟩ <;> simp only <;> omega
theorem has_meet0 {a b : Rg} {v : Int} : bhas (bmeet0 a b) v = (bhas a v && bhas b v) := by
  rw [Bool.eq_iff_iff, Bool.and_eq_true, bhas_iff, bhas_iff, bhas_iff]
  unfold bmeet0
  simp only
  omega
theorem has_meet {a b : Rg} (ha : a.wf) (hb : b.wf) {v : Int} (v0 : 0 ≤ v) (v1 : v ≤ 18446744073709551615) (h : bhas b v = true) : bhas a v = (bmeets a b && bhas (bmeet a b) v) := by
  have e := has_meet0 (a := a) (b := b) (v := v)
  rw [h, Bool.and_true] at e
  cases hm : bmeets a b
  · rw [Bool.false_and]
    cases hv : bhas a v
    · rfl
    · exfalso
      rw [hv] at e
      have := bhas_nok (wf_meet0 ha hb) v0 v1 e
      simp [bmeets, bhas_may hv, bhas_may h, this] at hm
  · rw [Bool.true_and]
    unfold bmeet
    rw [if_pos hm]
    unfold bmeets at hm
    simp only [Bool.and_eq_true] at hm
    rw [bhas_bnar (wf_meet0 ha hb) v0 v1 hm.2.2, e]
theorem sub_meet {a b : Rg} (h : bmeets a b = true) : (bmeet a b).Sub a ∧ bmay (bmeet a b) = true := by
  have h' := h
  unfold bmeets at h'
  simp only [Bool.and_eq_true] at h'
  unfold bmeet
  rw [if_pos h]
  refine ⟨(sub_bnar h'.2.2).trans ?_, bmay_bnar h'.2.2⟩
  unfold Rg.Sub bmeet0
  simp only
  omega
end Go.Proofs.Ytgfghplnankgnaa

