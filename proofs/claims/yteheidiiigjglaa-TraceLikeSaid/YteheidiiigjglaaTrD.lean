/- The walks of trace.Same, Like, Becomes over outcomes; the law's wakes. -/
import Derived.Test.YteheidiiigjglaaTrC
namespace Go.Proofs.Yteheidiiigjglaa
open Go.RowKit

structure Oc where
  kind : Int
  r0 : Int
  ctx : List Int
  tr : List Ev
  left : Int
  deriving DecidableEq
/-- The cells of an outcome are these values. -/
def OcV (w : World) (v : Value) (o : Oc) : Prop :=
  ∃ cv tv, v = .agg #[.int .i8 o.kind, .int .u64 o.r0, cv, tv, .int .i64 o.left] ∧ SlI .u8 w cv o.ctx ∧ SlE w tv o.tr ∧ ∀ x ∈ o.ctx, 0 ≤ x ∧ x ≤ 255
theorem OcV.ext {w w' : World} {v : Value} {o : Oc} (h : OcV w v o) (hx : Ext w w') : OcV w' v o := by
  obtain ⟨cv, tv, h1, h2, h3, h4⟩ := h
  exact ⟨cv, tv, h1, h2.ext hx, h3.ext hx, h4⟩
def Box5 (w : World) (b : Nat) (v0 v1 v2 v3 v4 : Value) : Prop := w.cell? ⟨b, 0, none⟩ = some v0 ∧ w.cell? ⟨b, 1, none⟩ = some v1 ∧ w.cell? ⟨b, 2, none⟩ = some v2 ∧ w.cell? ⟨b, 3, none⟩ = some v3 ∧ w.cell? ⟨b, 4, none⟩ = some v4
theorem Box5.ext {w w' : World} {b : Nat} {v0 v1 v2 v3 v4 : Value} (h : Box5 w b v0 v1 v2 v3 v4) (hx : Ext w w') : Box5 w' b v0 v1 v2 v3 v4 :=
  ⟨hx.cell h.1, hx.cell h.2.1, hx.cell h.2.2.1, hx.cell h.2.2.2.1, hx.cell h.2.2.2.2⟩
theorem Box5.new (w : World) (v0 v1 v2 v3 v4 : Value) (t : TypeId) : Box5 (w.alloc (.cells #[v0, v1, v2, v3, v4] t)) w.heap.size v0 v1 v2 v3 v4 := by
  refine ⟨?_, ?_, ?_, ?_, ?_⟩ <;> simp [go_sem]

def zlike (a b : Oc) : Bool := (a.kind == b.kind) && (decide (a.tr = b.tr) && ((a.kind != 1) || ((a.r0 == b.r0) && decide (a.ctx = b.ctx))))
def zsame (a b : Oc) : Bool := (a.kind == b.kind) && ((a.r0 == b.r0) && ((a.left == b.left) && (decide (a.ctx = b.ctx) && decide (a.tr = b.tr))))
theorem zsame_eq (a b : Oc) : zsame a b = decide (a = b) := by
  cases a; cases b
  rw [Bool.eq_iff_iff]
  simp [zsame]
  intros
  constructor
  · rintro ⟨a, b, c⟩; exact ⟨b, c, a⟩
  · rintro ⟨a, b, c⟩; exact ⟨c, a, b⟩

set_option maxHeartbeats 2000000 in
theorem Like_any (o1 o2 : Oc) (v1 v2 : Value) (W w : World) (hx : Ext W w) (h1 : OcV w v1 o1) (h2 : OcV w v2 o2) :
    Calls Try.prog 22 #[v1, v2] w fun e w' => e = .returned (.bool (zlike o1 o2)) ∧ Ext W w' := by
  obtain ⟨c1, t1, rfl, hc1, ht1, hk1⟩ := h1
  obtain ⟨c2, t2, rfl, hc2, ht2, hk2⟩ := h2
  have hx2 : ∀ A B, Ext w ((w.alloc A).alloc B) := fun A B => ((Ext.refl w).alloc A).alloc B
  have B1 := (Box5.new w (.int .i8 o1.kind) (.int .u64 o1.r0) c1 t1 (.int .i64 o1.left) 31).ext ((Ext.refl _).alloc (.cells #[.int .i8 o2.kind, .int .u64 o2.r0, c2, t2, .int .i64 o2.left] 31))
  have B2 := Box5.new (w.alloc (.cells #[.int .i8 o1.kind, .int .u64 o1.r0, c1, t1, .int .i64 o1.left] 31)) (.int .i8 o2.kind) (.int .u64 o2.r0) c2 t2 (.int .i64 o2.left) 31
  have e1 : (w.alloc (.cells #[.int .i8 o1.kind, .int .u64 o1.r0, c1, t1, .int .i64 o1.left] 31)).heap.size = w.heap.size + 1 := by simp
  rw [e1] at B2
  have TR := hide (fun w' (hy : Ext ((w.alloc (.cells #[.int .i8 o1.kind, .int .u64 o1.r0, c1, t1, .int .i64 o1.left] 31)).alloc (.cells #[.int .i8 o2.kind, .int .u64 o2.r0, c2, t2, .int .i64 o2.left] 31)) w') =>
    traces_any w.heap.size (w.heap.size + 1) t1 t2 o1.tr o2.tr w' (B1.ext hy).2.2.2.1 (B2.ext hy).2.2.2.1 (ht1.ext ((hx2 _ _).trans hy)) (ht2.ext ((hx2 _ _).trans hy)))
  have CX := hide (fun w' (hy : Ext ((w.alloc (.cells #[.int .i8 o1.kind, .int .u64 o1.r0, c1, t1, .int .i64 o1.left] 31)).alloc (.cells #[.int .i8 o2.kind, .int .u64 o2.r0, c2, t2, .int .i64 o2.left] 31)) w') =>
    contexts_any w.heap.size (w.heap.size + 1) c1 c2 o1.ctx o2.ctx w' (B1.ext hy).2.2.1 (B2.ext hy).2.2.1 (hc1.ext ((hx2 _ _).trans hy)) (hc2.ext ((hx2 _ _).trans hy)) hk1 hk2)
  have HB1 := hide B1
  have HB2 := hide B2
  have HX2 := hide hx2
  clear B1 B2 e1 hx2 hc1 hc2 ht1 ht2 hk1 hk2
  have hz : zlike o1 o2 = ((o1.kind == o2.kind) && (decide (o1.tr = o2.tr) && ((o1.kind != 1) || ((o1.r0 == o2.r0) && decide (o1.ctx = o2.ctx))))) := rfl
  cases gk : (o1.kind == o2.kind)
  · have hz' : zlike o1 o2 = false := by rw [hz, gk]; rfl
    rw [hz']
    clear hz hz'
    go_enter Try.func22, Try.ntmps22
    go_wp2_with fail
    go_ret
    exact ⟨rfl, hx.trans (HX2.out _ _)⟩
  · cases gt : decide (o1.tr = o2.tr)
    · have hz' : zlike o1 o2 = false := by rw [hz, gk, gt]; rfl
      rw [hz']
      clear hz hz'
      go_enter Try.func22, Try.ntmps22
      go_wp2_with (go_at_call 49; refine (TR.out _ (Ext.refl _)).mono ?_; rintro e w' ⟨rfl, hx'⟩; obtain ⟨p0, p1, p2, p3, p4⟩ := HB1.out.ext hx'; obtain ⟨q0, q1, q2, q3, q4⟩ := HB2.out.ext hx')
      go_ret
      exact ⟨rfl, (hx.trans (HX2.out _ _)).trans hx'⟩
    · cases gn : (o1.kind != 1)
      · cases gr : (o1.r0 == o2.r0)
        · have hz' : zlike o1 o2 = false := by rw [hz, gk, gt, gn, gr]; rfl
          rw [hz']
          clear hz hz'
          go_enter Try.func22, Try.ntmps22
          go_wp2_with (go_at_call 49; refine (TR.out _ (Ext.refl _)).mono ?_; rintro e w' ⟨rfl, hx'⟩; obtain ⟨p0, p1, p2, p3, p4⟩ := HB1.out.ext hx'; obtain ⟨q0, q1, q2, q3, q4⟩ := HB2.out.ext hx')
          go_ret
          exact ⟨rfl, (hx.trans (HX2.out _ _)).trans hx'⟩
        · have hz' : zlike o1 o2 = decide (o1.ctx = o2.ctx) := by rw [hz, gk, gt, gn, gr]; rfl
          rw [hz']
          clear hz hz'
          go_enter Try.func22, Try.ntmps22
          go_wp2_with (first
            | (go_at_call 49; refine (TR.out _ (Ext.refl _)).mono ?_; rintro e w' ⟨rfl, hx'⟩; obtain ⟨p0, p1, p2, p3, p4⟩ := HB1.out.ext hx'; obtain ⟨q0, q1, q2, q3, q4⟩ := HB2.out.ext hx')
            | (go_at_call 48; refine (CX.out _ hx').mono ?_; rintro e w2 ⟨rfl, hx2⟩))
          go_ret
          exact ⟨rfl, ((hx.trans (HX2.out _ _)).trans hx').trans hx2⟩
      · have hz' : zlike o1 o2 = true := by rw [hz, gk, gt, gn]; rfl
        rw [hz']
        clear hz hz'
        go_enter Try.func22, Try.ntmps22
        go_wp2_with (go_at_call 49; refine (TR.out _ (Ext.refl _)).mono ?_; rintro e w' ⟨rfl, hx'⟩; obtain ⟨p0, p1, p2, p3, p4⟩ := HB1.out.ext hx'; obtain ⟨q0, q1, q2, q3, q4⟩ := HB2.out.ext hx')
        go_ret
        exact ⟨rfl, (hx.trans (HX2.out _ _)).trans hx'⟩
end Go.Proofs.Yteheidiiigjglaa
