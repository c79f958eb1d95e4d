/- The walks of the reference's Like, Becomes, Fuel; of Args and May, both. -/
import Derived.Test.YteheidiiigjglaaTrS
namespace Go.Proofs.Yteheidiiigjglaa
open Go.RowKit

set_option maxHeartbeats 2000000 in
theorem rLike_any (o1 o2 : Oc) (v1 v2 : Value) (W w : World) (hx : Ext W w) (h1 : OcV w v1 o1) (h2 : OcV w v2 o2) :
    Calls Try.prog 25 #[v1, v2] w fun e w' => e = .returned (.bool (zlike o1 o2)) ∧ Ext W w' := by
  obtain ⟨c1, t1, rfl, hc1, ht1, hk1⟩ := h1
  obtain ⟨c2, t2, rfl, hc2, ht2, hk2⟩ := h2
  have hx2 : ∀ A B, Ext w ((w.alloc A).alloc B) := fun A B => ((Ext.refl w).alloc A).alloc B
  have B1 := (Box5.new w (.int .i8 o1.kind) (.int .u64 o1.r0) c1 t1 (.int .i64 o1.left) 31).ext ((Ext.refl _).alloc (.cells #[.int .i8 o2.kind, .int .u64 o2.r0, c2, t2, .int .i64 o2.left] 31))
  have B2 := Box5.new (w.alloc (.cells #[.int .i8 o1.kind, .int .u64 o1.r0, c1, t1, .int .i64 o1.left] 31)) (.int .i8 o2.kind) (.int .u64 o2.r0) c2 t2 (.int .i64 o2.left) 31
  have e1 : (w.alloc (.cells #[.int .i8 o1.kind, .int .u64 o1.r0, c1, t1, .int .i64 o1.left] 31)).heap.size = w.heap.size + 1 := by simp
  rw [e1] at B2
  have HB1 := hide B1
  have HB2 := hide B2
  have T1 := hide (fun A B => ht1.ext (hx2 A B))
  have T2 := hide (fun A B => ht2.ext (hx2 A B))
  have HE := hide (str_beq hk1 hk2)
  have C1 := hide (fun u (hu : Ext w u) => (hc1.ext hu).str (P := Try.prog) Try.underlying29 Try.underlying5 Try.underlying9)
  have C2 := hide (fun u (hu : Ext w u) => (hc2.ext hu).str (P := Try.prog) Try.underlying29 Try.underlying5 Try.underlying9)
  have X2 := hide hx2
  obtain ⟨oa, ca, rfl, _⟩ := hc1
  obtain ⟨ob, cb, rfl, _⟩ := hc2
  clear B1 B2 e1 hx2 ht1 ht2 hk1 hk2
  have hz : zlike o1 o2 = ((o1.kind == o2.kind) && (decide (o1.tr = o2.tr) && ((o1.kind != 1) || ((o1.r0 == o2.r0) && decide (o1.ctx = o2.ctx))))) := rfl
  cases gk : (o1.kind == o2.kind)
  · have hz' : zlike o1 o2 = false := by rw [hz, gk]; rfl
    have gk' : (o1.kind != o2.kind) = true := by rw [bne, gk]; rfl
    rw [hz']
    clear hz hz'
    go_enter Try.func25, Try.ntmps25
    go_wp2_with fail
    go_ret
    exact ⟨rfl, hx.trans (X2.out _ _)⟩
  · have gk' : (o1.kind != o2.kind) = false := by rw [bne, gk]; rfl
    cases gt : decide (o1.tr = o2.tr)
    · have hz' : zlike o1 o2 = false := by rw [hz, gk, gt]; rfl
      rw [hz']
      clear hz hz'
      go_enter Try.func25, Try.ntmps25
      go_wp2_with (go_at_call 50; refine (rtraces_any _ _ _ _ _ (T1.out _ _) (T2.out _ _)).mono ?_; rintro e w' ⟨rfl, hx'⟩; obtain ⟨p0, p1, p2, p3, p4⟩ := HB1.out.ext hx'; obtain ⟨q0, q1, q2, q3, q4⟩ := HB2.out.ext hx')
      go_ret
      exact ⟨rfl, (hx.trans (X2.out _ _)).trans hx'⟩
    · cases gn : (o1.kind != 1)
      · cases gr : (o1.r0 == o2.r0)
        · have hz' : zlike o1 o2 = false := by rw [hz, gk, gt, gn, gr]; rfl
          rw [hz']
          clear hz hz'
          go_enter Try.func25, Try.ntmps25
          go_wp2_with (go_at_call 50; refine (rtraces_any _ _ _ _ _ (T1.out _ _) (T2.out _ _)).mono ?_; rintro e w' ⟨rfl, hx'⟩; obtain ⟨p0, p1, p2, p3, p4⟩ := HB1.out.ext hx'; obtain ⟨q0, q1, q2, q3, q4⟩ := HB2.out.ext hx')
          go_ret
          exact ⟨rfl, (hx.trans (X2.out _ _)).trans hx'⟩
        · have hz' : zlike o1 o2 = decide (o1.ctx = o2.ctx) := by rw [hz, gk, gt, gn, gr]; rfl
          rw [hz', ← HE.out]
          clear hz hz'
          go_enter Try.func25, Try.ntmps25
          go_wp2_with (go_at_call 50; refine (rtraces_any _ _ _ _ _ (T1.out _ _) (T2.out _ _)).mono ?_; rintro e w' ⟨rfl, hx'⟩; obtain ⟨p0, p1, p2, p3, p4⟩ := HB1.out.ext hx'; obtain ⟨q0, q1, q2, q3, q4⟩ := HB2.out.ext hx'; have s1 := C1.out _ ((X2.out _ _).trans hx'); have s2 := C2.out _ ((X2.out _ _).trans hx'))
          go_ret
          exact ⟨rfl, (hx.trans (X2.out _ _)).trans hx'⟩
      · have hz' : zlike o1 o2 = true := by rw [hz, gk, gt, gn]; rfl
        rw [hz']
        clear hz hz'
        go_enter Try.func25, Try.ntmps25
        go_wp2_with (go_at_call 50; refine (rtraces_any _ _ _ _ _ (T1.out _ _) (T2.out _ _)).mono ?_; rintro e w' ⟨rfl, hx'⟩; obtain ⟨p0, p1, p2, p3, p4⟩ := HB1.out.ext hx'; obtain ⟨q0, q1, q2, q3, q4⟩ := HB2.out.ext hx')
        go_ret
        exact ⟨rfl, (hx.trans (X2.out _ _)).trans hx'⟩

set_option maxHeartbeats 2000000 in
theorem rBecomes_any (o1 o2 : Oc) (v1 v2 : Value) (W w : World) (hx : Ext W w) (h1 : OcV w v1 o1) (h2 : OcV w v2 o2) :
    Calls Try.prog 27 #[v1, v2] w fun e w' => e = .returned (.bool ((o1.kind == 0) && pre o1.tr o2.tr)) ∧ Ext W w' := by
  obtain ⟨c1, t1, rfl, _, ht1, _⟩ := h1
  obtain ⟨c2, t2, rfl, _, ht2, _⟩ := h2
  have hx2 : ∀ A B, Ext w ((w.alloc A).alloc B) := fun A B => ((Ext.refl w).alloc A).alloc B
  have HX2 := hide hx2
  have T1 := hide ht1
  have T2 := hide ht2
  clear hx2 ht1 ht2
  cases gk : (o1.kind == 0)
  · rw [Bool.false_and]
    go_enter Try.func27, Try.ntmps27
    go_wp2_with fail
    go_ret
    exact ⟨rfl, hx.trans (HX2.out _ _)⟩
  · rw [Bool.true_and]
    go_enter Try.func27, Try.ntmps27
    go_wp2_with (go_at_call 26; refine (rBegins_any _ _ o1.tr o2.tr _ (T1.out.ext (HX2.out _ _)) (T2.out.ext (HX2.out _ _))).mono ?_; rintro e w' ⟨rfl, hx'⟩)
    go_ret
    exact ⟨rfl, (hx.trans (HX2.out _ _)).trans hx'⟩

set_option maxHeartbeats 1000000 in
theorem rfuel_any (n : Int) (w : World) :
    Calls Try.prog 30 #[.int .i64 n] w fun e w' => e = .returned (.int .i64 (zfuel n)) ∧ w = w' := by
  have hc : n < 0 ∨ (0 ≤ n ∧ n ≤ 10000) ∨ 10000 < n := by omega
  rcases hc with h | ⟨h, h'⟩ | h
  all_goals
    go_enter Try.func30, Try.ntmps30
    go_wp2_with fail
    go_ret
    refine ⟨ret_int ?_, rfl⟩
    unfold zfuel
    omega

def zargs (n : Int) : Int := if 0 ≤ n ∧ n ≤ 15 then n % 6 else 0
set_option maxHeartbeats 1000000 in
theorem within_any (n a b : Int) (w : World) :
    Calls Try.prog 62 #[.int .i64 n, .int .i64 a, .int .i64 b] w fun e w' => e = .returned (.bool (decide (a ≤ n) && decide (n ≤ b))) ∧ w = w' := by
  by_cases h1 : a ≤ n
  · rw [decide_eq_true h1, Bool.true_and]
    go_enter Try.func62, Try.ntmps62
    go_wp2_with fail
    go_ret
    exact ⟨rfl, rfl⟩
  · rw [decide_eq_false h1, Bool.false_and]
    go_enter Try.func62, Try.ntmps62
    go_wp2_with fail
    go_ret
    exact ⟨rfl, rfl⟩
set_option maxHeartbeats 1000000 in
theorem args_any (n : Int) (w : World) :
    Calls Try.prog 52 #[.int .i64 n] w fun e w' => e = .returned (.int .i64 (zargs n)) ∧ w = w' := by
  by_cases h : 0 ≤ n ∧ n ≤ 15
  · have hz : zargs n = n % 6 := by simp only [zargs, h, and_self, if_true]
    have hw : (decide (0 ≤ n) && decide (n ≤ 15)) = true := by simp [h]
    obtain ⟨h1, h2⟩ := h
    have hm : n.tmod 6 = n % 6 := Int.tmod_eq_emod_of_nonneg h1
    rw [hz]
    clear hz
    have HW := hide hw
    clear hw
    go_enter Try.func52, Try.ntmps52
    go_wp2_with (go_at_call 62; refine (within_any _ _ _ _).mono ?_; rw [HW.out]; rintro e w' ⟨rfl, rfl⟩)
    go_ret
    exact ⟨ret_int (by first | rfl | omega), rfl⟩
  · have hz : zargs n = 0 := by simp only [zargs, h, if_false]
    have hw : (decide (0 ≤ n) && decide (n ≤ 15)) = false := by
      rw [Bool.eq_false_iff]; simpa using h
    rw [hz]
    have HW := hide hw
    clear hz hw h
    go_enter Try.func52, Try.ntmps52
    go_wp2_with (go_at_call 62; refine (within_any _ _ _ _).mono ?_; rw [HW.out]; rintro e w' ⟨rfl, rfl⟩)
    go_ret
    exact ⟨rfl, rfl⟩
set_option maxHeartbeats 1000000 in
theorem rargs_any (n : Int) (w : World) :
    Calls Try.prog 53 #[.int .i64 n] w fun e w' => e = .returned (.int .i64 (zargs n)) ∧ w = w' := by
  have hc : n < 0 ∨ 16 ≤ n ∨ (0 ≤ n ∧ n ≤ 15) := by omega
  rcases hc with h | h | ⟨h1, h2⟩
  · have hz : zargs n = 0 := by unfold zargs; rw [if_neg]; omega
    rw [hz]
    clear hz
    go_enter Try.func53, Try.ntmps53
    go_wp2_with fail
    go_ret
    exact ⟨rfl, rfl⟩
  · have hz : zargs n = 0 := by unfold zargs; rw [if_neg]; omega
    have h0 : ¬ n < 0 := by omega
    rw [hz]
    clear hz
    go_enter Try.func53, Try.ntmps53
    go_wp2_with fail
    go_ret
    exact ⟨rfl, rfl⟩
  · have hz : zargs n = n % 6 := by simp only [zargs, h1, h2, and_self, if_true]
    have hm : n.tmod 6 = n % 6 := Int.tmod_eq_emod_of_nonneg h1
    rw [hz]
    clear hz
    go_enter Try.func53, Try.ntmps53
    go_wp2_with fail
    go_ret
    exact ⟨ret_int (by first | rfl | omega), rfl⟩
end Go.Proofs.Yteheidiiigjglaa
