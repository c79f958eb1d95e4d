/- Plain laws of masks: which bits two numbers differ in; Do of known bits, way by way, as the document has it. -/
import Derived.Test.YtcfnglbcgkappaaGreatVd
import Derived.Test.YtcfnglbcgkappaaGreatKnLZ
set_option linter.unusedVariables false
set_option linter.unusedSimpArgs false
namespace Go.Proofs.YtcfnglbcgkappaaGreat
open Go.RowKit

theorem cfrom_at {lo hi : Int} {n : Nat} (hn : n ≤ 64) (h : kcn lo hi = cfrom lo hi (64 - n) n) (he : lo / 2 ^ n = hi / 2 ^ n) : kcn lo hi = n := by
  rw [h]
  cases h : 64 - n with
  | zero => rfl
  | succ k => rw [cfrom, if_pos he]
theorem cfrom_next {lo hi : Int} {n : Nat} (hn : n < 64) (h : kcn lo hi = cfrom lo hi (64 - n) n) (he : ¬ lo / 2 ^ n = hi / 2 ^ n) : kcn lo hi = cfrom lo hi (64 - (n + 1)) (n + 1) := by
  rw [h, show 64 - n = (64 - (n + 1)) + 1 from by omega, cfrom, if_neg he]
section
variable {op l : Int} {a b : Kn}
theorem kd_one2 (hg : kgood op l a b = true ∧ okop op l = true) (ha : a.wf) (hb : b.wf) (h : ((kcut a l).m == 0) = true) (h' : ((kcut b l).m == 0) = true) : kone (if okop op l = true then zdo op l (kcut a l).v (kcut b l).v else 0) = kdo op l a b :=
  kd_one hg (by have w1 := (wf_kcut ha l).2; have w2 := (wf_kcut hb l).2; rw [or_zero w1.1 w1.2 w2.1 w2.2, h, h']; rfl)
theorem kd_op2 {X : Kn} (hg : kgood op l a b = true ∧ okop op l = true) (ha : a.wf) (hb : b.wf) (h : ((kcut a l).m == 0) = false ∨ ((kcut b l).m == 0) = false) (e : kop op l (kcut a l) (kcut b l) = X) : kcut X l = kdo op l a b :=
  kd_op hg (by have w1 := (wf_kcut ha l).2; have w2 := (wf_kcut hb l).2; rw [or_zero w1.1 w1.2 w2.1 w2.2]; rcases h with h | h <;> rw [h] <;> simp) e
/-- What the document's own shift comes to. -/
def kshok (l : Int) (b : Kn) : Bool := opI .and .u64 b.m (opI .sub .u64 (IntKind.u64.wrap l) 1) == 0
def kshv (op l : Int) (a b : Kn) : Kn := if kshok l b = true then kmask (if okop op l = true then zdo op l a.v (opI .and .u64 b.v (opI .sub .u64 (IntKind.u64.wrap l) 1)) else 0) (if okop op l = true then zdo op l a.m (opI .and .u64 b.v (opI .sub .u64 (IntKind.u64.wrap l) 1)) else 0) else ⟨0, 0⟩
theorem low_l (hl : l = 32 ∨ l = 64) : opI .sub .u64 (IntKind.u64.wrap l) 1 = l - 1 := by rcases hl with rfl | rfl <;> decide
theorem kop_sh (h : op = 6 ∨ op = 7 ∨ op = 12) (hl : l = 32 ∨ l = 64) (hk : okop op l = true) (c : kshok l b = true) : kop op l a b = kshv op l a b := by
  have c' := c
  unfold kshok at c'
  rw [low_l hl] at c'
  rw [kop_y h c']
  unfold kshv
  rw [if_pos c, if_pos hk, if_pos hk, low_l hl]
  rfl
theorem kop_nsh (h : op = 6 ∨ op = 7 ∨ op = 12) (hl : l = 32 ∨ l = 64) (c : kshok l b = false) : kop op l a b = kall := by
  unfold kshok at c
  rw [low_l hl] at c
  exact kop_n h c
end
end Go.Proofs.YtcfnglbcgkappaaGreat
