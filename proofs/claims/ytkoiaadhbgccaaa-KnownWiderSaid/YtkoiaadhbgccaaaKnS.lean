/- The walks of the reference of package known: the operations. -/
import Derived.Test.YtkoiaadhbgccaaaKnR
import Derived.Deep.RegionHeld3
import Derived.Deep.RegionWith
set_option linter.unusedVariables false
set_option linter.unusedSimpArgs false
namespace Go.Proofs.Ytkoiaadhbgccaaa
open Go.RowKit

set_option maxHeartbeats 4000000 in
theorem rkcut_any (a : Kn) (x : Int) (W w : World) (hx : Ext W w) (ha : a.wf) :
    Calls Try.prog 45 #[.agg #[.int .u64 a.v, .int .u64 a.m], .int .i8 x] w fun e w' => e = .returned (.agg #[.int .u64 (kcut a x).v, .int .u64 (kcut a x).m]) ∧ Ext W w' := by
  obtain ⟨W3, hW3⟩ : ∃ W3, W3 = ((w.alloc (.cells #[.int .u64 a.v, .int .u64 a.m] 48)).alloc (.cells #[.int .u64 0, .int .u64 0] 48)) := ⟨_, rfl⟩
  have x3 : Ext w W3 := by rw [hW3]; exact (((Ext.refl w).alloc _).alloc _)
  have MK := hide (fun w' (h : Ext W3 w') => new2 (hW3 ▸ h))
  have hx' : Ext W3 W3 := Ext.refl _
  obtain ⟨⟨a1, a2⟩, a3, a4⟩ := ha
  have hc : kmay a = false ∨ kmay a = true := by cases kmay a <;> simp
  rcases hc with h1 | h1
  · have hz : kcut a x = kall := by simp [kcut, h1]
    rw [hz]; clear hz
    go_enter Try.func45, Try.ntmps45
    go_wp2_with fail
    rw [← hW3]
    clear hW3
    (try clear p0 p1 pf q0 q1 qf sz sz0); obtain ⟨⟨p0, p1, pf⟩, ⟨q0, q1, qf⟩, sz⟩ := MK.out _ hx'; have sz0 := Nat.lt_of_succ_lt sz
    go_wp2_with (first
      | (go_at_call 40; (with_reducible refine (rmay_any a W3 _ (by assumption)).mono ?_); rintro e w' ⟨rfl, hx'⟩; (try clear p0 p1 pf q0 q1 qf sz sz0); obtain ⟨⟨p0, p1, pf⟩, ⟨q0, q1, qf⟩, sz⟩ := MK.out _ hx'; have sz0 := Nat.lt_of_succ_lt sz)
      | (go_at_call 48; (with_reducible refine (rall_any  W3 _ (by assumption)).mono ?_); rintro e w' ⟨rfl, hx'⟩; (try clear p0 p1 pf q0 q1 qf sz sz0); obtain ⟨⟨p0, p1, pf⟩, ⟨q0, q1, qf⟩, sz⟩ := MK.out _ hx'; have sz0 := Nat.lt_of_succ_lt sz)
      | fail)
    exact bodyPost_ret (by simp [results, Try.results45, go_sem, q0, q1, sz, Nat.ne_of_lt sz, Nat.ne_of_gt sz] <;> (first | exact ⟨rfl, rfl⟩ | rfl)) rfl ⟨rfl, by (refine hx.trans ?_; with_reducible repeat (first | assumption | exact x3.trans hx' | apply Ext.alloc | apply Ext.drew | (refine Ext.store1 ?_ (by omega) _)))⟩
  · have hz : kcut a x = ⟨zcut a.v x, zcut a.m x⟩ := by simp [kcut, h1]
    rw [hz]; clear hz
    go_enter Try.func45, Try.ntmps45
    go_wp2_with fail
    rw [← hW3]
    clear hW3
    (try clear p0 p1 pf q0 q1 qf sz sz0); obtain ⟨⟨p0, p1, pf⟩, ⟨q0, q1, qf⟩, sz⟩ := MK.out _ hx'; have sz0 := Nat.lt_of_succ_lt sz
    go_wp2_with (first
      | (go_at_call 40; (with_reducible refine (rmay_any a W3 _ (by assumption)).mono ?_); rintro e w' ⟨rfl, hx'⟩; (try clear p0 p1 pf q0 q1 qf sz sz0); obtain ⟨⟨p0, p1, pf⟩, ⟨q0, q1, qf⟩, sz⟩ := MK.out _ hx'; have sz0 := Nat.lt_of_succ_lt sz)
      | fail)
    go_region_held3 (fun w' => w'.cell? ⟨w.heap.size, 0, none⟩ = some (.int .u64 a.v) ∧ w'.cell? ⟨w.heap.size, 1, none⟩ = some (.int .u64 a.m))
      (go_keep)
      ((go_at_call 67; (with_reducible refine (rcut_any _ _ _ (by omega) (by omega)).mono ?_); rintro e w2 ⟨rfl, rfl⟩))
    go_wp2_with fail
    exact bodyPost_ret (by simp [results, Try.results45, go_sem, q0, q1, sz, Nat.ne_of_lt sz, Nat.ne_of_gt sz] <;> (first | exact ⟨rfl, rfl⟩ | rfl)) rfl ⟨rfl, by (refine hx.trans ?_; with_reducible repeat (first | assumption | exact x3.trans hx' | apply Ext.alloc | apply Ext.drew | (refine Ext.store1 ?_ (by omega) _)))⟩

set_option maxHeartbeats 2000000 in
theorem radd_any (a b : Kn) (W w : World) (hx : Ext W w) :
    Calls Try.prog 62 #[.agg #[.int .u64 a.v, .int .u64 a.m], .agg #[.int .u64 b.v, .int .u64 b.m]] w fun e w' => e = .returned (.agg #[.int .u64 (radd a b).v, .int .u64 (radd a b).m]) ∧ Ext W w' := by
  go_enter Try.func62, Try.ntmps62
  go_wp2_with fail
  exact bodyPost_ret (by simp [results, Try.results62, go_sem] <;> (first | exact ⟨rfl, rfl⟩ | rfl)) rfl ⟨rfl, by (refine hx.trans ?_; repeat (first | exact Ext.refl _ | apply Ext.alloc | (refine Ext.store1 ?_ (by simp; omega) _)))⟩

set_option maxHeartbeats 2000000 in
theorem rsub_any (a b : Kn) (W w : World) (hx : Ext W w) :
    Calls Try.prog 63 #[.agg #[.int .u64 a.v, .int .u64 a.m], .agg #[.int .u64 b.v, .int .u64 b.m]] w fun e w' => e = .returned (.agg #[.int .u64 (ksub a b).v, .int .u64 (ksub a b).m]) ∧ Ext W w' := by
  go_enter Try.func63, Try.ntmps63
  go_wp2_with fail
  exact bodyPost_ret (by simp [results, Try.results63, go_sem] <;> (first | exact ⟨rfl, rfl⟩ | rfl)) rfl ⟨rfl, by (refine hx.trans ?_; repeat (first | exact Ext.refl _ | apply Ext.alloc | (refine Ext.store1 ?_ (by simp; omega) _)))⟩

set_option maxHeartbeats 8000000 in
theorem rin_any (a b : Kn) (W w : World) (hx : Ext W w) :
    Calls Try.prog 44 #[.agg #[.int .u64 a.v, .int .u64 a.m], .agg #[.int .u64 b.v, .int .u64 b.m]] w fun e w' => e = .returned (.bool (rin a b)) ∧ Ext W w' := by
  obtain ⟨W3, hW3⟩ : ∃ W3, W3 = ((w.alloc (.cells #[.int .u64 a.v, .int .u64 a.m] 48)).alloc (.cells #[.int .u64 b.v, .int .u64 b.m] 48)) := ⟨_, rfl⟩
  have x3 : Ext w W3 := by rw [hW3]; exact (((Ext.refl w).alloc _).alloc _)
  have MK := hide (fun w' (h : Ext W3 w') => new2 (hW3 ▸ h))
  have hx' : Ext W3 W3 := Ext.refl _
  have hc : kmay a = false ∨ (kmay a = true ∧ kmay b = false) ∨ (kmay a = true ∧ kmay b = true ∧ (bits .andNot .u64 a.m b.m == 0) = false) ∨ (kmay a = true ∧ kmay b = true ∧ (bits .andNot .u64 a.m b.m == 0) = true) := by
    cases kmay a <;> cases kmay b <;> cases (bits .andNot .u64 a.m b.m == 0) <;> simp
  have S1 : kmay a = false → rin a b = false := fun h => by simp only [rin, h, Bool.false_and]
  have S2 : kmay a = true → kmay b = false → rin a b = false := fun h h' => by simp only [rin, h, h', Bool.false_and, Bool.and_false]
  have S3 : kmay a = true → kmay b = true → (bits .andNot .u64 a.m b.m == 0) = false → rin a b = false := fun h h' h'' => by simp only [rin, h, h', h'', Bool.false_and, Bool.and_false]
  have S4 : kmay a = true → kmay b = true → (bits .andNot .u64 a.m b.m == 0) = true → rin a b = (bits .andNot .u64 (bits .xor .u64 a.v b.v) b.m == 0) := fun h h' h'' => by simp only [rin, h, h', h'', Bool.true_and]
  have HS1 := hide S1
  have HS2 := hide S2
  have HS3 := hide S3
  have HS4 := hide S4
  clear S1 S2 S3 S4
  rcases hc with h1 | ⟨h1, h2⟩ | ⟨h1, h2, h3⟩ | ⟨h1, h2, h3⟩
  · rw [HS1.out h1]
    go_enter Try.func44, Try.ntmps44
    go_wp2_with fail
    rw [← hW3]
    clear hW3
    (try clear p0 p1 pf q0 q1 qf sz sz0); obtain ⟨⟨p0, p1, pf⟩, ⟨q0, q1, qf⟩, sz⟩ := MK.out _ hx'; have sz0 := Nat.lt_of_succ_lt sz
    go_wp2_with (first
      | (go_at_call 40; (with_reducible refine (rmay_any a W3 _ (by assumption)).mono ?_); rintro e w' ⟨rfl, hx'⟩; (try clear p0 p1 pf q0 q1 qf sz sz0); obtain ⟨⟨p0, p1, pf⟩, ⟨q0, q1, qf⟩, sz⟩ := MK.out _ hx'; have sz0 := Nat.lt_of_succ_lt sz)
      | (go_at_call 40; (with_reducible refine (rmay_any b W3 _ (by assumption)).mono ?_); rintro e w' ⟨rfl, hx'⟩; (try clear p0 p1 pf q0 q1 qf sz sz0); obtain ⟨⟨p0, p1, pf⟩, ⟨q0, q1, qf⟩, sz⟩ := MK.out _ hx'; have sz0 := Nat.lt_of_succ_lt sz)
      | fail)
    go_ret
    exact ⟨rfl, hx.trans (x3.trans hx')⟩
  · rw [HS2.out h1 h2]
    go_enter Try.func44, Try.ntmps44
    go_wp2_with fail
    rw [← hW3]
    clear hW3
    (try clear p0 p1 pf q0 q1 qf sz sz0); obtain ⟨⟨p0, p1, pf⟩, ⟨q0, q1, qf⟩, sz⟩ := MK.out _ hx'; have sz0 := Nat.lt_of_succ_lt sz
    go_wp2_with (first
      | (go_at_call 40; (with_reducible refine (rmay_any a W3 _ (by assumption)).mono ?_); rintro e w' ⟨rfl, hx'⟩; (try clear p0 p1 pf q0 q1 qf sz sz0); obtain ⟨⟨p0, p1, pf⟩, ⟨q0, q1, qf⟩, sz⟩ := MK.out _ hx'; have sz0 := Nat.lt_of_succ_lt sz)
      | (go_at_call 40; (with_reducible refine (rmay_any b W3 _ (by assumption)).mono ?_); rintro e w' ⟨rfl, hx'⟩; (try clear p0 p1 pf q0 q1 qf sz sz0); obtain ⟨⟨p0, p1, pf⟩, ⟨q0, q1, qf⟩, sz⟩ := MK.out _ hx'; have sz0 := Nat.lt_of_succ_lt sz)
      | fail)
    go_ret
    exact ⟨rfl, hx.trans (x3.trans hx')⟩
  · rw [HS3.out h1 h2 h3]
    go_enter Try.func44, Try.ntmps44
    go_wp2_with fail
    rw [← hW3]
    clear hW3
    (try clear p0 p1 pf q0 q1 qf sz sz0); obtain ⟨⟨p0, p1, pf⟩, ⟨q0, q1, qf⟩, sz⟩ := MK.out _ hx'; have sz0 := Nat.lt_of_succ_lt sz
    go_wp2_with (first
      | (go_at_call 40; (with_reducible refine (rmay_any a W3 _ (by assumption)).mono ?_); rintro e w' ⟨rfl, hx'⟩; (try clear p0 p1 pf q0 q1 qf sz sz0); obtain ⟨⟨p0, p1, pf⟩, ⟨q0, q1, qf⟩, sz⟩ := MK.out _ hx'; have sz0 := Nat.lt_of_succ_lt sz)
      | (go_at_call 40; (with_reducible refine (rmay_any b W3 _ (by assumption)).mono ?_); rintro e w' ⟨rfl, hx'⟩; (try clear p0 p1 pf q0 q1 qf sz sz0); obtain ⟨⟨p0, p1, pf⟩, ⟨q0, q1, qf⟩, sz⟩ := MK.out _ hx'; have sz0 := Nat.lt_of_succ_lt sz)
      | fail)
    go_ret
    exact ⟨rfl, hx.trans (x3.trans hx')⟩
  · rw [HS4.out h1 h2 h3]
    go_enter Try.func44, Try.ntmps44
    go_wp2_with fail
    rw [← hW3]
    clear hW3
    (try clear p0 p1 pf q0 q1 qf sz sz0); obtain ⟨⟨p0, p1, pf⟩, ⟨q0, q1, qf⟩, sz⟩ := MK.out _ hx'; have sz0 := Nat.lt_of_succ_lt sz
    go_wp2_with (first
      | (go_at_call 40; (with_reducible refine (rmay_any a W3 _ (by assumption)).mono ?_); rintro e w' ⟨rfl, hx'⟩; (try clear p0 p1 pf q0 q1 qf sz sz0); obtain ⟨⟨p0, p1, pf⟩, ⟨q0, q1, qf⟩, sz⟩ := MK.out _ hx'; have sz0 := Nat.lt_of_succ_lt sz)
      | (go_at_call 40; (with_reducible refine (rmay_any b W3 _ (by assumption)).mono ?_); rintro e w' ⟨rfl, hx'⟩; (try clear p0 p1 pf q0 q1 qf sz sz0); obtain ⟨⟨p0, p1, pf⟩, ⟨q0, q1, qf⟩, sz⟩ := MK.out _ hx'; have sz0 := Nat.lt_of_succ_lt sz)
      | fail)
    go_ret
    exact ⟨rfl, hx.trans (x3.trans hx')⟩
end Go.Proofs.Ytkoiaadhbgccaaa
