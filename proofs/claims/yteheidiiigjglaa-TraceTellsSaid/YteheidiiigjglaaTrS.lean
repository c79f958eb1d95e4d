/- The walks of the reference's Same, Like, Becomes, May, Fuel; trace.May. -/
import Derived.Test.YteheidiiigjglaaTrR
namespace Go.Proofs.Yteheidiiigjglaa
open Go.RowKit

set_option maxHeartbeats 2000000 in
theorem rSame_any (o1 o2 : Oc) (v1 v2 : Value) (W w : World) (hx : Ext W w) (h1 : OcV w v1 o1) (h2 : OcV w v2 o2) :
    Calls Try.prog 24 #[v1, v2] w fun e w' => e = .returned (.bool (zsame o1 o2)) ∧ Ext W w' := by
  obtain ⟨c1, t1, rfl, hc1, ht1, hk1⟩ := h1
  obtain ⟨c2, t2, rfl, hc2, ht2, hk2⟩ := h2
  have hx2 : ∀ A B, Ext w ((w.alloc A).alloc B) := fun A B => ((Ext.refl w).alloc A).alloc B
  have B1 := (Box5.new w (.int .i8 o1.kind) (.int .u64 o1.r0) c1 t1 (.int .i64 o1.left) 31).ext ((Ext.refl _).alloc (.cells #[.int .i8 o2.kind, .int .u64 o2.r0, c2, t2, .int .i64 o2.left] 31))
  have B2 := Box5.new (w.alloc (.cells #[.int .i8 o1.kind, .int .u64 o1.r0, c1, t1, .int .i64 o1.left] 31)) (.int .i8 o2.kind) (.int .u64 o2.r0) c2 t2 (.int .i64 o2.left) 31
  have e1 : (w.alloc (.cells #[.int .i8 o1.kind, .int .u64 o1.r0, c1, t1, .int .i64 o1.left] 31)).heap.size = w.heap.size + 1 := by simp
  rw [e1] at B2
  have HB1 := hide B1
  have HB2 := hide B2
  have T1 := hide (fun A B => ht1.ext (hx2 A B))
  have T2 := hide (fun A B => ht2.ext (hx2 A B))
  have HE := hide (str_beq hk1 hk2)
  have S1 : ∀ A B, (convert 29 9 c1).run Try.prog ((w.alloc A).alloc B) = .ok (.string (strOfNums o1.ctx)) ((w.alloc A).alloc B) := fun A B => (hc1.ext (hx2 A B)).str Try.underlying29 Try.underlying5 Try.underlying9
  have S2 : ∀ A B, (convert 29 9 c2).run Try.prog ((w.alloc A).alloc B) = .ok (.string (strOfNums o2.ctx)) ((w.alloc A).alloc B) := fun A B => (hc2.ext (hx2 A B)).str Try.underlying29 Try.underlying5 Try.underlying9
  have X2 := hide hx2
  obtain ⟨oa, ca, rfl, _⟩ := hc1
  obtain ⟨ob, cb, rfl, _⟩ := hc2
  clear B1 B2 e1 hx2 ht1 ht2 hk1 hk2
  have hz : zsame o1 o2 = ((o1.kind == o2.kind) && ((o1.r0 == o2.r0) && ((o1.left == o2.left) && (decide (o1.ctx = o2.ctx) && decide (o1.tr = o2.tr))))) := rfl
  cases gk : (o1.kind == o2.kind)
  · have hz' : zsame o1 o2 = false := by rw [hz, gk]; rfl
    rw [hz']
    clear hz hz'
    go_enter Try.func24, Try.ntmps24
    go_wp2_with fail
    go_ret
    exact ⟨rfl, hx.trans (X2.out _ _)⟩
  · cases gr : (o1.r0 == o2.r0)
    · have hz' : zsame o1 o2 = false := by rw [hz, gk, gr]; rfl
      rw [hz']
      clear hz hz'
      go_enter Try.func24, Try.ntmps24
      go_wp2_with fail
      go_ret
      exact ⟨rfl, hx.trans (X2.out _ _)⟩
    · cases gc : decide (o1.ctx = o2.ctx)
      · have hz' : zsame o1 o2 = false := by rw [hz, gk, gr, gc]; simp
        rw [hz']
        have he := HE.out
        rw [gc] at he
        clear hz hz'
        go_enter Try.func24, Try.ntmps24
        go_wp2_with fail
        go_ret
        exact ⟨rfl, hx.trans (X2.out _ _)⟩
      · have he := HE.out
        rw [gc] at he
        cases gt : decide (o1.tr = o2.tr)
        · have hz' : zsame o1 o2 = false := by rw [hz, gk, gr, gc, gt]; simp
          rw [hz']
          clear hz hz'
          go_enter Try.func24, Try.ntmps24
          go_wp2_with (go_at_call 50; refine (rtraces_any _ _ _ _ _ (T1.out _ _) (T2.out _ _)).mono ?_; rintro e w' ⟨rfl, hx'⟩; obtain ⟨p0', p1', p2', p3', p4'⟩ := HB1.out.ext hx'; obtain ⟨q0', q1', q2', q3', q4'⟩ := HB2.out.ext hx')
          go_ret
          exact ⟨rfl, (hx.trans (X2.out _ _)).trans hx'⟩
        · have hz' : zsame o1 o2 = (o1.left == o2.left) := by rw [hz, gk, gr, gc, gt]; simp
          rw [hz']
          clear hz hz'
          go_enter Try.func24, Try.ntmps24
          go_wp2_with (go_at_call 50; refine (rtraces_any _ _ _ _ _ (T1.out _ _) (T2.out _ _)).mono ?_; rintro e w' ⟨rfl, hx'⟩; obtain ⟨p0', p1', p2', p3', p4'⟩ := HB1.out.ext hx'; obtain ⟨q0', q1', q2', q3', q4'⟩ := HB2.out.ext hx')
          go_ret
          exact ⟨rfl, (hx.trans (X2.out _ _)).trans hx'⟩
end Go.Proofs.Yteheidiiigjglaa
