/- The walk of the law KnownDo. -/
import Derived.Test.YtkoiaadhbgccaaaKnW
import Derived.Test.YtkoiaadhbgccaaaKnU
set_option linter.unusedVariables false
set_option linter.unusedSimpArgs false
namespace Go.Proofs.Ytkoiaadhbgccaaa
open Go.RowKit Go.ChangeShapes Go.WideShapes

set_option maxHeartbeats 4000000 in
theorem kd_walk (op w1 : Int) (a b : Kn) (W : World) (ha : a.wf) (hb : b.wf) :
    Calls Try.prog 6 #[.int .i8 op, .int .i8 w1, .agg #[.int .u64 a.v, .int .u64 a.m], .agg #[.int .u64 b.v, .int .u64 b.m]] W fun e W' => e = .returned (.bool true) ∧ Ext W W' := by
  obtain ⟨W3, hW3⟩ : ∃ W3, W3 = (W.alloc (.cells #[.int .u64 a.v, .int .u64 a.m] 48)).alloc (.cells #[.int .u64 b.v, .int .u64 b.m] 48) := ⟨_, rfl⟩
  have x3 : Ext W W3 := by rw [hW3]; exact ((Ext.refl W).alloc _).alloc _
  have MK := hide (fun w' (h : Ext W3 w') => new2 (hW3 ▸ h))
  have hx' : Ext W3 W3 := Ext.refl _
  have SK := hide (fun w' (h : Ext W3 w') => (⟨h, (MK.out _ h).1.1, (MK.out _ h).1.2.1, (MK.out _ h).2.1.1, (MK.out _ h).2.1.2.1⟩ : Ext W3 w' ∧ w'.cell? ⟨W.heap.size, 0, none⟩ = some (.int .u64 a.v) ∧ w'.cell? ⟨W.heap.size, 1, none⟩ = some (.int .u64 a.m) ∧ w'.cell? ⟨W.heap.size + 1, 0, none⟩ = some (.int .u64 b.v) ∧ w'.cell? ⟨W.heap.size + 1, 1, none⟩ = some (.int .u64 b.m)))
  go_enter Try.func6, Try.ntmps6
  go_wp2_with fail
  rw [← hW3]
  clear hW3
  go_region_held3 (fun w' => Ext W3 w' ∧ w'.cell? ⟨W.heap.size, 0, none⟩ = some (.int .u64 a.v) ∧ w'.cell? ⟨W.heap.size, 1, none⟩ = some (.int .u64 a.m) ∧ w'.cell? ⟨W.heap.size + 1, 0, none⟩ = some (.int .u64 b.v) ∧ w'.cell? ⟨W.heap.size + 1, 1, none⟩ = some (.int .u64 b.m))
    (first | exact SK.out _ hx' | exact SK.out _ hx'.drew)
    (first
      | (go_at_call 24; have hq := And.left ‹Ext W3 _ ∧ _›; (with_reducible refine (kdo_any op w1 a b W3 _ hq ha hb).mono ?_); rintro e w' ⟨rfl, hx'⟩)
      | (go_at_call 25; have hq := And.left ‹Ext W3 _ ∧ _›; (with_reducible refine (rkdo_any op w1 a b W3 _ hq ha hb).mono ?_); rintro e w' ⟨rfl, hx'⟩)
      | (go_at_call 26; have hq := And.left ‹Ext W3 _ ∧ _›; (with_reducible refine (kwakes_any W3 _ hq).mono ?_); rintro e w' ⟨rfl, hx'⟩))
  go_wp2_with fail
  go_ret
  exact ⟨rfl, x3.trans hx'⟩
theorem law_KnownDo {H : Type} {enc : TypeId × Value → H} {W : World} {r : Reach} {b0 : Nat} (a0 : Int) (_ : (Lit.int .i8 a0).wf = true) (a1 : Int) (_ : (Lit.int .i8 a1).wf = true)
    (v2 : Value) (k2 : Value.okWide Try.prog W r b0 48 v2) (d2 : DataW H) (p2 : List MemPlace) (h2 : DataW.Trod enc Try.prog W 0 (fun _ => true) true 48 v2 d2 p2) (_ : ∀ x ∈ p2, x.block < W.heap.size)
    (v3 : Value) (k3 : Value.okWide Try.prog W r b0 48 v3) (d3 : DataW H) (p3 : List MemPlace) (h3 : DataW.Trod enc Try.prog W 0 (fun _ => true) true 48 v3 d3 p3) (_ : ∀ x ∈ p3, x.block < W.heap.size) :
    Calls Try.prog 6 #[.int .i8 a0, .int .i8 a1, v2, v3] W fun e W' => e = .returned (.bool true) ∧ Below W.heap.size W W' := by
  obtain ⟨a, rfl, ha⟩ := Kn.of_arg k2 h2
  obtain ⟨b, rfl, hb⟩ := Kn.of_arg k3 h3
  exact kd_walk a0 a1 a b W ha hb
end Go.Proofs.Ytkoiaadhbgccaaa
