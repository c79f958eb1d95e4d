/- Single, with letters; one number taken away. -/
import Derived.Test.YtcngfmhhaleoaaaBdC
import Derived.Test.YtcngfmhhaleoaaaBdX
import Derived.Deep.RegionHeld3
import Derived.Deep.RegionWith
import Derived.Deep.DeepCutAuto
import Derived.Deep.CutBlock
set_option linter.unusedVariables false
set_option linter.unusedSimpArgs false
namespace Go.Proofs.Ytcngfmhhaleoaaa
open Go.RowKit Go.ChangeShapes Go.WideShapes

theorem can1 {a b : Rg} {v : Int} (hs : bones b = true) (hv : b.ul = v) : bcan 1 a b = ((!((a.ul == v) && (a.uh == v))) && (!((a.sl == s64 v) && (a.sh == s64 v)))) := by
  subst hv
  unfold bcan
  rw [if_pos rfl, if_pos hs]
  generalize s64 b.ul = t
  by_cases h1 : a.ul = b.ul <;> by_cases h2 : a.uh = b.ul <;> by_cases h3 : a.sl = t <;> by_cases h4 : a.sh = t <;> simp [h1, h2, h3, h4]
theorem pwlo_eq {f : Int → Int} {lo hi v : Int} (h : lo = v → hi ≠ v → f (lo + 1) = lo + 1) (hn : ¬ (lo = v ∧ hi = v)) : pwlo f lo hi v = if lo = v then lo + 1 else lo := by
  unfold pwlo
  by_cases e1 : lo = v
  · have e2 : hi ≠ v := fun e => hn ⟨e1, e⟩
    rw [if_pos ⟨beq_iff_eq.2 e1, beq_eq_false_iff_ne.2 e2⟩, if_pos e1]
    exact h e1 e2
  · rw [if_neg (fun q => e1 (beq_iff_eq.1 q.1)), if_neg e1]
theorem pwhi_eq {f : Int → Int} {lo hi v : Int} (h : lo ≠ v → hi = v → f (hi - 1) = hi - 1) : pwhi f lo hi v = if lo ≠ v ∧ hi = v then hi - 1 else hi := by
  unfold pwhi
  by_cases e1 : lo = v
  · rw [if_neg (fun q => (beq_eq_false_iff_ne.1 q.1) e1), if_neg (fun q => q.1 e1)]
  · by_cases e2 : hi = v
    · rw [if_pos ⟨beq_eq_false_iff_ne.2 e1, beq_iff_eq.2 e2⟩, if_pos ⟨e1, e2⟩]
      exact h e1 e2
    · rw [if_neg (fun q => e2 (beq_iff_eq.1 q.2)), if_neg (fun q => e2 q.2)]
theorem rng1 {a b : Rg} {v : Int} (ha : a.wf) (ma : bmay a = true) (hs : bones b = true) (hv : b.ul = v) (k1 : (!((a.ul == v) && (a.uh == v))) = true) (k2 : (!((a.sl == s64 v) && (a.sh == s64 v))) = true) :
    brng 1 a b = ⟨pwlo IntKind.u64.wrap a.ul a.uh v, pwhi IntKind.u64.wrap a.ul a.uh v, pwlo wrap64 a.sl a.sh (s64 v), pwhi wrap64 a.sl a.sh (s64 v)⟩ := by
  subst hv
  rw [bmay_iff] at ma
  obtain ⟨⟨a0, a1⟩, ⟨a2, a3⟩, ⟨a4, a5⟩, a6, a7⟩ := ha
  unfold brng
  rw [if_pos rfl, if_pos hs]
  generalize s64 b.ul = t at *
  have n1 : ¬ (a.ul = b.ul ∧ a.uh = b.ul) := fun q => by rw [beq_iff_eq.2 q.1, beq_iff_eq.2 q.2] at k1; simp at k1
  have n2 : ¬ (a.sl = t ∧ a.sh = t) := fun q => by rw [beq_iff_eq.2 q.1, beq_iff_eq.2 q.2] at k2; simp at k2
  rw [pwlo_eq (fun e1 e2 => by rw [w_u64]; omega) n1, pwhi_eq (fun e1 e2 => by rw [w_u64]; omega), pwlo_eq (fun e1 e2 => by simp only [wrap64]; omega) n2, pwhi_eq (fun e1 e2 => by simp only [wrap64]; omega)]
theorem b_singlel (a : Rg) (v : Int) (t : Bool) (hv : bsingle a = v) (ht : bones a = t) (W w : World) (hx : Ext W w) :
    Calls Try.prog 15 #[.agg #[.int .u64 a.ul, .int .u64 a.uh, .int .i64 a.sl, .int .i64 a.sh]] w fun e w' => e = .returned (.tuple #[.int .u64 v, .bool t]) ∧ Ext W w' := by
  rw [← hv, ← ht]
  exact b_single a W w hx
end Go.Proofs.Ytcngfmhhaleoaaa
