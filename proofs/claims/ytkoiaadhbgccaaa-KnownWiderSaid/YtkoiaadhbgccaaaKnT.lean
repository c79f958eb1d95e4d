/- The walks of the reference's shift and Do. -/
import Derived.Test.YtkoiaadhbgccaaaKnS
import Derived.Test.YtkoiaadhbgccaaaKnM
set_option linter.unusedVariables false
set_option linter.unusedSimpArgs false
namespace Go.Proofs.Ytkoiaadhbgccaaa
open Go.RowKit

theorem zlong32 : zlong 32 = true := rfl
theorem zlong64 : zlong 64 = true := rfl
theorem low_eq (w1 : Int) (h1 : 32 ≤ w1) (h2 : w1 ≤ 64) : IntKind.u64.wrap (IntKind.u64.wrap w1 - 1) = w1 - 1 := by rw [w_u64, w_u64]; omega

set_option maxHeartbeats 4000000 in
theorem rshift_any (op w1 : Int) (a b : Kn) (W w : World) (hx : Ext W w) (ha : a.wf) (hb : b.wf) (h0 : 0 ≤ op) (h12 : op ≤ 12) (hw : w1 = 32 ∨ w1 = 64) :
    Calls Try.prog 64 #[.int .i8 op, .int .i8 w1, .agg #[.int .u64 a.v, .int .u64 a.m], .agg #[.int .u64 b.v, .int .u64 b.m]] w fun e w' =>
      e = .returned (.tuple #[.agg #[.int .u64 (if (bits .and .u64 b.m (w1 - 1) == 0) = true then kshift op w1 a b else ⟨0, 0⟩).v, .int .u64 (if (bits .and .u64 b.m (w1 - 1) == 0) = true then kshift op w1 a b else ⟨0, 0⟩).m], .bool (bits .and .u64 b.m (w1 - 1) == 0)]) ∧ Ext W w' := by
  obtain ⟨⟨a1, a2⟩, a3, a4⟩ := ha
  obtain ⟨W3, hW3⟩ : ∃ W3, W3 = ((w.alloc (.cells #[.int .u64 a.v, .int .u64 a.m] 48)).alloc (.cells #[.int .u64 b.v, .int .u64 b.m] 48)).alloc (.cells #[.int .u64 0, .int .u64 0] 48) := ⟨_, rfl⟩
  have x3 : Ext w W3 := by rw [hW3]; exact (((Ext.refl w).alloc _).alloc _).alloc _
  have MK := hide (fun w' (h : Ext W3 w') => new3 (hW3 ▸ h))
  have hx' : Ext W3 W3 := Ext.refl _
  have hc : ((bits .and .u64 b.m (w1 - 1) == 0) = false ∧ (bits .and .u64 b.m (w1 - 1) != 0) = true) ∨ ((bits .and .u64 b.m (w1 - 1) == 0) = true ∧ (bits .and .u64 b.m (w1 - 1) != 0) = false) := by
    cases h : (bits .and .u64 b.m (w1 - 1) == 0) <;> simp_all
  rcases hw with rfl | rfl
  all_goals
    first
      | rw [show (32 : Int) - 1 = 31 from rfl] at hc ⊢
      | rw [show (64 : Int) - 1 = 63 from rfl] at hc ⊢
    rcases hc with ⟨h1, h2⟩ | ⟨h1, h2⟩
    · rw [h1]
      clear h1
      go_enter Try.func64, Try.ntmps64
      go_wp2_with fail
      exact bodyPost_ret (v := .tuple #[.agg #[.int .u64 0, .int .u64 0], .bool false]) (by simp [results, Try.results64, go_sem] <;> (first | exact ⟨rfl, rfl⟩ | rfl)) rfl ⟨rfl, by (refine hx.trans ?_; repeat (first | exact Ext.refl _ | apply Ext.alloc | (refine Ext.store1 ?_ (by simp; omega) _)))⟩
    · rw [h1]
      clear h1
      go_enter Try.func64, Try.ntmps64
      go_wp2_with (first
        | (go_at_call 36; (with_reducible refine (rdo_any _ _ _ _ _ (by assumption) (by assumption) (and_bd _ _).1 (and_bd _ _).2 h0 h12 (by first | exact zlong32 | exact zlong64)).mono ?_); rintro e w' ⟨rfl, rfl⟩)
        | fail)
      first
        | exact bodyPost_ret (v := .tuple #[.agg #[.int .u64 (kshift op 32 a b).v, .int .u64 (kshift op 32 a b).m], .bool true]) (by simp [results, Try.results64, go_sem] <;> (first | exact ⟨rfl, rfl⟩ | rfl)) rfl ⟨rfl, by (refine hx.trans ?_; repeat (first | exact Ext.refl _ | apply Ext.alloc | (refine Ext.store1 ?_ (by simp; omega) _)))⟩
        | exact bodyPost_ret (v := .tuple #[.agg #[.int .u64 (kshift op 64 a b).v, .int .u64 (kshift op 64 a b).m], .bool true]) (by simp [results, Try.results64, go_sem] <;> (first | exact ⟨rfl, rfl⟩ | rfl)) rfl ⟨rfl, by (refine hx.trans ?_; repeat (first | exact Ext.refl _ | apply Ext.alloc | (refine Ext.store1 ?_ (by simp; omega) _)))⟩
end Go.Proofs.Ytkoiaadhbgccaaa
