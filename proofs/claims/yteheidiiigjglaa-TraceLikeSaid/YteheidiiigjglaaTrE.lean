/- The walks of trace.Same and Becomes, and of the trace laws' own wakes; the law TraceFuel. -/
import Derived.Test.YteheidiiigjglaaTrD
namespace Go.Proofs.Yteheidiiigjglaa
open Go.RowKit

set_option maxHeartbeats 2000000 in
theorem Same_any (o1 o2 : Oc) (v1 v2 : Value) (W w : World) (hx : Ext W w) (h1 : OcV w v1 o1) (h2 : OcV w v2 o2) :
    Calls Try.prog 18 #[v1, v2] w fun e w' => e = .returned (.bool (zsame o1 o2)) ∧ Ext W w' := by
  obtain ⟨c1, t1, rfl, hc1, ht1, hk1⟩ := h1
  obtain ⟨c2, t2, rfl, hc2, ht2, hk2⟩ := h2
  have hx2 : ∀ A B, Ext w ((w.alloc A).alloc B) := fun A B => ((Ext.refl w).alloc A).alloc B
  have B1 := (Box5.new w (.int .i8 o1.kind) (.int .u64 o1.r0) c1 t1 (.int .i64 o1.left) 31).ext ((Ext.refl _).alloc (.cells #[.int .i8 o2.kind, .int .u64 o2.r0, c2, t2, .int .i64 o2.left] 31))
  have B2 := Box5.new (w.alloc (.cells #[.int .i8 o1.kind, .int .u64 o1.r0, c1, t1, .int .i64 o1.left] 31)) (.int .i8 o2.kind) (.int .u64 o2.r0) c2 t2 (.int .i64 o2.left) 31
  have e1 : (w.alloc (.cells #[.int .i8 o1.kind, .int .u64 o1.r0, c1, t1, .int .i64 o1.left] 31)).heap.size = w.heap.size + 1 := by simp
  rw [e1] at B2
  have TR := hide (fun w' (hy : Ext ((w.alloc (.cells #[.int .i8 o1.kind, .int .u64 o1.r0, c1, t1, .int .i64 o1.left] 31)).alloc (.cells #[.int .i8 o2.kind, .int .u64 o2.r0, c2, t2, .int .i64 o2.left] 31)) w') =>
    traces_any w.heap.size (w.heap.size + 1) t1 t2 o1.tr o2.tr w' (B1.ext hy).2.2.2.1 (B2.ext hy).2.2.2.1 (ht1.ext ((hx2 _ _).trans hy)) (ht2.ext ((hx2 _ _).trans hy)))
  have CX := hide (fun w' (hy : Ext ((w.alloc (.cells #[.int .i8 o1.kind, .int .u64 o1.r0, c1, t1, .int .i64 o1.left] 31)).alloc (.cells #[.int .i8 o2.kind, .int .u64 o2.r0, c2, t2, .int .i64 o2.left] 31)) w') =>
    contexts_any w.heap.size (w.heap.size + 1) c1 c2 o1.ctx o2.ctx w' (B1.ext hy).2.2.1 (B2.ext hy).2.2.1 (hc1.ext ((hx2 _ _).trans hy)) (hc2.ext ((hx2 _ _).trans hy)) hk1 hk2)
  have HB1 := hide B1
  have HB2 := hide B2
  have HX2 := hide hx2
  clear B1 B2 e1 hx2 hc1 hc2 ht1 ht2 hk1 hk2
  have hz : zsame o1 o2 = ((o1.kind == o2.kind) && ((o1.r0 == o2.r0) && ((o1.left == o2.left) && (decide (o1.ctx = o2.ctx) && decide (o1.tr = o2.tr))))) := rfl
  cases gk : (o1.kind == o2.kind)
  · have hz' : zsame o1 o2 = false := by rw [hz, gk]; rfl
    rw [hz']
    clear hz hz'
    go_enter Try.func18, Try.ntmps18
    go_wp2_with fail
    go_ret
    exact ⟨rfl, hx.trans (HX2.out _ _)⟩
  · cases gr : (o1.r0 == o2.r0)
    · have hz' : zsame o1 o2 = false := by rw [hz, gk, gr]; rfl
      rw [hz']
      clear hz hz'
      go_enter Try.func18, Try.ntmps18
      go_wp2_with fail
      go_ret
      exact ⟨rfl, hx.trans (HX2.out _ _)⟩
    · cases gl : (o1.left == o2.left)
      · have hz' : zsame o1 o2 = false := by rw [hz, gk, gr, gl]; rfl
        rw [hz']
        clear hz hz'
        go_enter Try.func18, Try.ntmps18
        go_wp2_with fail
        go_ret
        exact ⟨rfl, hx.trans (HX2.out _ _)⟩
      · cases gc : decide (o1.ctx = o2.ctx)
        · have hz' : zsame o1 o2 = false := by rw [hz, gk, gr, gl, gc]; rfl
          rw [hz']
          clear hz hz'
          go_enter Try.func18, Try.ntmps18
          go_wp2_with (go_at_call 48; refine (CX.out _ (Ext.refl _)).mono ?_; rintro e w' ⟨rfl, hx'⟩)
          go_ret
          exact ⟨rfl, (hx.trans (HX2.out _ _)).trans hx'⟩
        · have hz' : zsame o1 o2 = decide (o1.tr = o2.tr) := by rw [hz, gk, gr, gl, gc]; rfl
          rw [hz']
          clear hz hz'
          go_enter Try.func18, Try.ntmps18
          go_wp2_with (first
            | (go_at_call 48; refine (CX.out _ (Ext.refl _)).mono ?_; rintro e w' ⟨rfl, hx'⟩)
            | (go_at_call 49; refine (TR.out _ hx').mono ?_; rintro e w2 ⟨rfl, hx2⟩))
          go_ret
          exact ⟨rfl, ((hx.trans (HX2.out _ _)).trans hx').trans hx2⟩

set_option maxHeartbeats 2000000 in
theorem Becomes_any (o1 o2 : Oc) (v1 v2 : Value) (W w : World) (hx : Ext W w) (h1 : OcV w v1 o1) (h2 : OcV w v2 o2) :
    Calls Try.prog 21 #[v1, v2] w fun e w' => e = .returned (.bool ((o1.kind == 0) && pre o1.tr o2.tr)) ∧ Ext W w' := by
  obtain ⟨c1, t1, rfl, _, ht1, _⟩ := h1
  obtain ⟨c2, t2, rfl, _, ht2, _⟩ := h2
  have hx2 : ∀ A B, Ext w ((w.alloc A).alloc B) := fun A B => ((Ext.refl w).alloc A).alloc B
  have HX2 := hide hx2
  have T1 := hide ht1
  have T2 := hide ht2
  clear hx2 ht1 ht2
  cases gk : (o1.kind == 0)
  · rw [Bool.false_and]
    go_enter Try.func21, Try.ntmps21
    go_wp2_with fail
    go_ret
    exact ⟨rfl, hx.trans (HX2.out _ _)⟩
  · rw [Bool.true_and]
    go_enter Try.func21, Try.ntmps21
    go_wp2_with (go_at_call 17; refine (Begins_any _ _ o1.tr o2.tr _ (T1.out.ext (HX2.out _ _)) (T2.out.ext (HX2.out _ _))).mono ?_; rintro e w' ⟨rfl, hx'⟩)
    go_ret
    exact ⟨rfl, (hx.trans (HX2.out _ _)).trans hx'⟩

theorem OcV.bare (w : World) (k r l : Int) : OcV w (.agg #[.int .i8 k, .int .u64 r, .slice none 0 0, .slice none 0 0, .int .i64 l]) ⟨k, r, [], [], l⟩ :=
  ⟨_, _, rfl, SlI.nil _ _, SlE.nil _, by simp⟩
set_option maxRecDepth 100000 in
set_option maxHeartbeats 2000000 in
theorem twakes_any (W w : World) (hx : Ext W w) :
    Calls Try.prog 16 #[] w fun e w' => e = .returned (.bool true) ∧ Ext W w' := by
  have e1 : zlike ⟨1, 5, [], [], 3⟩ ⟨1, 5, [], [], 9⟩ = true := by decide
  have e2 : zsame ⟨1, 5, [], [], 3⟩ ⟨1, 5, [], [], 9⟩ = false := by decide
  have e3 : zlike ⟨2, 0, [], [], 0⟩ ⟨3, 0, [], [], 0⟩ = false := by decide
  have e4 : zfuel 2 = 192 := by decide
  have hx2 : ∀ A B, Ext W ((w.alloc A).alloc B) := fun A B => (hx.alloc A).alloc B
  have HX2 := hide hx2
  have B1 := (Box5.new w (.int .i8 1) (.int .u64 5) (.slice none 0 0) (.slice none 0 0) (.int .i64 3) 31).ext ((Ext.refl _).alloc (.cells #[.int .i8 1, .int .u64 5, .slice none 0 0, .slice none 0 0, .int .i64 9] 31))
  have B2 := Box5.new (w.alloc (.cells #[.int .i8 1, .int .u64 5, .slice none 0 0, .slice none 0 0, .int .i64 3] 31)) (.int .i8 1) (.int .u64 5) (.slice none 0 0) (.slice none 0 0) (.int .i64 9) 31
  have g1 : (w.alloc (.cells #[.int .i8 1, .int .u64 5, .slice none 0 0, .slice none 0 0, .int .i64 3] 31)).heap.size = w.heap.size + 1 := by simp
  rw [g1] at B2
  have HB1 := hide B1
  have HB2 := hide B2
  clear B1 B2 g1 hx2
  go_enter Try.func16, Try.ntmps16
  go_wp2_with (first
    | (go_at_call 22; (with_reducible refine (Like_any ⟨1, 5, [], [], 3⟩ ⟨1, 5, [], [], 9⟩ _ _ _ _ (Ext.refl _) (OcV.bare _ _ _ _) (OcV.bare _ _ _ _)).mono ?_); rintro e w1 ⟨rfl, hx1⟩; obtain ⟨p0, p1, p2, p3, p4⟩ := HB1.out.ext hx1; obtain ⟨q0, q1, q2, q3, q4⟩ := HB2.out.ext hx1)
    | (go_at_call 18; (with_reducible refine (Same_any ⟨1, 5, [], [], 3⟩ ⟨1, 5, [], [], 9⟩ _ _ _ _ hx1 (OcV.bare _ _ _ _) (OcV.bare _ _ _ _)).mono ?_); rintro e w2 ⟨rfl, hx2⟩)
    | (go_at_call 22; (with_reducible refine (Like_any ⟨2, 0, [], [], 0⟩ ⟨3, 0, [], [], 0⟩ _ _ _ _ hx2 (OcV.bare _ _ _ _) (OcV.bare _ _ _ _)).mono ?_); rintro e w3 ⟨rfl, hx3⟩)
    | (go_at_call 19; refine (fuel_any _ _).mono ?_; rintro e w' ⟨rfl, rfl⟩)
    | fail)
  go_ret
  exact ⟨rfl, (HX2.out _ _).trans hx3⟩
end Go.Proofs.Yteheidiiigjglaa
