/- The walk of the reference's Do at 32 bits, behind the test of both masks. -/
import Derived.Test.YtkoiaadhbgccaaaKnP
import Derived.Deep.RegionHeld3
import Derived.Deep.RegionWith
set_option linter.unusedVariables false
set_option linter.unusedSimpArgs false
namespace Go.Proofs.Ytkoiaadhbgccaaa
open Go.RowKit

set_option maxRecDepth 100000 in
set_option maxHeartbeats 64000000 in
theorem rkdo_more32 (op : Int) (a b : Kn) (W w : World) (hx : Ext W w) (ha : a.wf) (hb : b.wf) (h1 : kmay a = true) (h2 : kmay b = true) (h3 : 0 ≤ op) (h4 : op ≤ 12) (hc : ((kcut a 32).m == 0) = false ∨ ((kcut a 32).m == 0) = true ∧ ((kcut b 32).m == 0) = false) :
    Calls Try.prog 25 #[.int .i8 op, .int .i8 32, .agg #[.int .u64 a.v, .int .u64 a.m], .agg #[.int .u64 b.v, .int .u64 b.m]] w fun e w' => e = .returned (.agg #[.int .u64 (kcut (kop op 32 (kcut a 32) (kcut b 32)) 32).v, .int .u64 (kcut (kop op 32 (kcut a 32) (kcut b 32)) 32).m]) ∧ Ext W w' := by
  obtain ⟨W3, hW3⟩ : ∃ W3, W3 = (((w.alloc (.cells #[.int .u64 a.v, .int .u64 a.m] 48)).alloc (.cells #[.int .u64 b.v, .int .u64 b.m] 48)).alloc (.cells #[.int .u64 0, .int .u64 0] 48)) := ⟨_, rfl⟩
  have x3 : Ext w W3 := by rw [hW3]; exact ((((Ext.refl w).alloc _).alloc _).alloc _)
  have MK := hide (fun w' (h : Ext W3 w') => new3 (hW3 ▸ h))
  have hx' : Ext W3 W3 := Ext.refl _
  have wA := wf_kcut ha 32
  have wB := wf_kcut hb 32
  have HWA := hide wA
  have HWB := hide wB
  have HWK := hide (wf_kop wA wB op 32)
  clear wA wB
  rcases op_cases h3 h4 with rfl | rfl | rfl | rfl | rfl | rfl | rfl | rfl | rfl | rfl | rfl | rfl | rfl
  · rcases hc with m1 | ⟨m1, m2⟩
    all_goals
      go_enter Try.func25, Try.ntmps25
      go_wp2_with fail
      rw [← hW3]
      clear hW3
      (try clear p0 p1 pf q0 q1 qf r0 r1 rf sz sz0 sz1); obtain ⟨⟨p0, p1, pf⟩, ⟨q0, q1, qf⟩, ⟨r0, r1, rf⟩, sz⟩ := MK.out _ hx'; have sz1 := Nat.lt_of_succ_lt sz; have sz0 := Nat.lt_of_succ_lt sz1
      go_wp2_with (first
        | (go_at_call 40; (with_reducible refine (rmay_any a W3 _ (by assumption)).mono ?_); rintro e w' ⟨rfl, hx'⟩; (try clear p0 p1 pf q0 q1 qf r0 r1 rf sz sz0 sz1); obtain ⟨⟨p0, p1, pf⟩, ⟨q0, q1, qf⟩, ⟨r0, r1, rf⟩, sz⟩ := MK.out _ hx'; have sz1 := Nat.lt_of_succ_lt sz; have sz0 := Nat.lt_of_succ_lt sz1)
        | (go_at_call 40; (with_reducible refine (rmay_any b W3 _ (by assumption)).mono ?_); rintro e w' ⟨rfl, hx'⟩; (try clear p0 p1 pf q0 q1 qf r0 r1 rf sz sz0 sz1); obtain ⟨⟨p0, p1, pf⟩, ⟨q0, q1, qf⟩, ⟨r0, r1, rf⟩, sz⟩ := MK.out _ hx'; have sz1 := Nat.lt_of_succ_lt sz; have sz0 := Nat.lt_of_succ_lt sz1)
        | (go_at_call 45; (with_reducible refine (rkcut_any a _ W3 _ (by assumption) ha).mono ?_); rintro e w' ⟨rfl, hx'⟩; (try clear p0 p1 pf q0 q1 qf r0 r1 rf sz sz0 sz1); obtain ⟨⟨p0, p1, pf⟩, ⟨q0, q1, qf⟩, ⟨r0, r1, rf⟩, sz⟩ := MK.out _ hx'; have sz1 := Nat.lt_of_succ_lt sz; have sz0 := Nat.lt_of_succ_lt sz1)
        | fail)
      obtain ⟨W4, hW4⟩ : ∃ W4, W4 = (w'.setCell ⟨w.heap.size, 0, none⟩ (.int .u64 (kcut a 32).v)).setCell ⟨w.heap.size, 1, none⟩ (.int .u64 (kcut a 32).m) := ⟨_, rfl⟩
      rw [← hW4]
      have c := MK.out _ hx'
      have c0 := c.1.put (.int .u64 (kcut a 32).v) (.int .u64 (kcut a 32).m)
      rw [← hW4] at c0
      have c1 := c.2.1.off (w.heap.size) (.int .u64 (kcut a 32).v) (.int .u64 (kcut a 32).m) (by omega)
      rw [← hW4] at c1
      have c2 := c.2.2.1.off (w.heap.size) (.int .u64 (kcut a 32).v) (.int .u64 (kcut a 32).m) (by omega)
      rw [← hW4] at c2
      have xW4 : Ext w W4 := by rw [hW4]; exact (x3.trans hx').store2 (by omega) _ _
      have sW4 : w.heap.size + 1 + 1 < W4.heap.size := by rw [hW4]; simpa [World.setCell] using sz
      clear hW4 p0 p1 pf q0 q1 qf r0 r1 rf sz sz0 sz1 c hx'
      have MW4 := hide (fun w' (h : Ext W4 w') => And.intro (c0.ext h) (And.intro (c1.ext h) (And.intro (c2.ext h) (Nat.lt_of_lt_of_le sW4 h.size))))
      clear c0 c1 c2 sW4
      have hx' : Ext W4 W4 := Ext.refl _
      (try clear p0 p1 pf q0 q1 qf r0 r1 rf sz sz0 sz1); obtain ⟨⟨p0, p1, pf⟩, ⟨q0, q1, qf⟩, ⟨r0, r1, rf⟩, sz⟩ := MW4.out _ hx'; have sz1 := Nat.lt_of_succ_lt sz; have sz0 := Nat.lt_of_succ_lt sz1
      go_wp2_with (first
        | (go_at_call 45; (with_reducible refine (rkcut_any b _ W4 _ (by assumption) hb).mono ?_); rintro e w' ⟨rfl, hx'⟩; (try clear p0 p1 pf q0 q1 qf r0 r1 rf sz sz0 sz1); obtain ⟨⟨p0, p1, pf⟩, ⟨q0, q1, qf⟩, ⟨r0, r1, rf⟩, sz⟩ := MW4.out _ hx'; have sz1 := Nat.lt_of_succ_lt sz; have sz0 := Nat.lt_of_succ_lt sz1)
        | fail)
      obtain ⟨W5, hW5⟩ : ∃ W5, W5 = (w'.setCell ⟨w.heap.size + 1, 0, none⟩ (.int .u64 (kcut b 32).v)).setCell ⟨w.heap.size + 1, 1, none⟩ (.int .u64 (kcut b 32).m) := ⟨_, rfl⟩
      rw [← hW5]
      have c := MW4.out _ hx'
      have c0 := c.1.off (w.heap.size + 1) (.int .u64 (kcut b 32).v) (.int .u64 (kcut b 32).m) (by omega)
      rw [← hW5] at c0
      have c1 := c.2.1.put (.int .u64 (kcut b 32).v) (.int .u64 (kcut b 32).m)
      rw [← hW5] at c1
      have c2 := c.2.2.1.off (w.heap.size + 1) (.int .u64 (kcut b 32).v) (.int .u64 (kcut b 32).m) (by omega)
      rw [← hW5] at c2
      have xW5 : Ext w W5 := by rw [hW5]; exact (xW4.trans hx').store2 (by omega) _ _
      have sW5 : w.heap.size + 1 + 1 < W5.heap.size := by rw [hW5]; simpa [World.setCell] using sz
      clear hW5 p0 p1 pf q0 q1 qf r0 r1 rf sz sz0 sz1 c hx'
      have MW5 := hide (fun w' (h : Ext W5 w') => And.intro (c0.ext h) (And.intro (c1.ext h) (And.intro (c2.ext h) (Nat.lt_of_lt_of_le sW5 h.size))))
      clear c0 c1 c2 sW5
      have hx' : Ext W5 W5 := Ext.refl _
      (try clear p0 p1 pf q0 q1 qf r0 r1 rf sz sz0 sz1); obtain ⟨⟨p0, p1, pf⟩, ⟨q0, q1, qf⟩, ⟨r0, r1, rf⟩, sz⟩ := MW5.out _ hx'; have sz1 := Nat.lt_of_succ_lt sz; have sz0 := Nat.lt_of_succ_lt sz1
      have wk : (kop 0 32 (kcut a 32) (kcut b 32)).wf := HWK.out
      go_wp2_with (first
        | (go_at_call 48; (with_reducible refine (rall_any W5 _ (by assumption)).mono ?_); rintro e w' ⟨rfl, hx'⟩; (try clear p0 p1 pf q0 q1 qf r0 r1 rf sz sz0 sz1); obtain ⟨⟨p0, p1, pf⟩, ⟨q0, q1, qf⟩, ⟨r0, r1, rf⟩, sz⟩ := MW5.out _ hx'; have sz1 := Nat.lt_of_succ_lt sz; have sz0 := Nat.lt_of_succ_lt sz1)
        | (go_at_call 62; (with_reducible refine (radd_any (kcut a 32) (kcut b 32) _ _ (Ext.refl _)).mono ?_); rintro e w' ⟨rfl, hy⟩; have hx5 := hx'; have hx' := (hx5.alloc _).trans hy; (try clear p0 p1 pf q0 q1 qf r0 r1 rf sz sz0 sz1); obtain ⟨⟨p0, p1, pf⟩, ⟨q0, q1, qf⟩, ⟨r0, r1, rf⟩, sz⟩ := MW5.out _ hx'; have sz1 := Nat.lt_of_succ_lt sz; have sz0 := Nat.lt_of_succ_lt sz1; obtain ⟨⟨o0, o1, of⟩, so⟩ := new1 hy; have so' := Ext.size hx5; clear hy)
        | (go_at_call 45; refine (rkcut_any (radd (kcut a 32) (kcut b 32)) _ W5 _ (by with_reducible repeat (first | assumption | apply Ext.alloc | apply Ext.drew | (refine Ext.store1 ?_ (by omega) _))) (by rw [radd_eq]; exact wk)).mono ?_; rintro e w' ⟨rfl, hx'⟩; (try clear p0 p1 pf q0 q1 qf r0 r1 rf sz sz0 sz1); obtain ⟨⟨p0, p1, pf⟩, ⟨q0, q1, qf⟩, ⟨r0, r1, rf⟩, sz⟩ := MW5.out _ hx'; have sz1 := Nat.lt_of_succ_lt sz; have sz0 := Nat.lt_of_succ_lt sz1)
        | fail)
      have he : kop 0 32 (kcut a 32) (kcut b 32) = radd (kcut a 32) (kcut b 32) := (radd_eq _ _).symm
      rw [he]
      clear he
      exact bodyPost_ret (by simp [results, Try.results25, go_sem, r0, r1, sz, Nat.ne_of_lt sz, Nat.ne_of_gt sz] <;> (first | exact ⟨rfl, rfl⟩ | rfl)) rfl ⟨rfl, by (refine hx.trans ?_; with_reducible repeat (first | assumption | exact xW5.trans hx' | apply Ext.alloc | apply Ext.drew | (refine Ext.store1 ?_ (by omega) _)))⟩
  · rcases hc with m1 | ⟨m1, m2⟩
    all_goals
      go_enter Try.func25, Try.ntmps25
      go_wp2_with fail
      rw [← hW3]
      clear hW3
      (try clear p0 p1 pf q0 q1 qf r0 r1 rf sz sz0 sz1); obtain ⟨⟨p0, p1, pf⟩, ⟨q0, q1, qf⟩, ⟨r0, r1, rf⟩, sz⟩ := MK.out _ hx'; have sz1 := Nat.lt_of_succ_lt sz; have sz0 := Nat.lt_of_succ_lt sz1
      go_wp2_with (first
        | (go_at_call 40; (with_reducible refine (rmay_any a W3 _ (by assumption)).mono ?_); rintro e w' ⟨rfl, hx'⟩; (try clear p0 p1 pf q0 q1 qf r0 r1 rf sz sz0 sz1); obtain ⟨⟨p0, p1, pf⟩, ⟨q0, q1, qf⟩, ⟨r0, r1, rf⟩, sz⟩ := MK.out _ hx'; have sz1 := Nat.lt_of_succ_lt sz; have sz0 := Nat.lt_of_succ_lt sz1)
        | (go_at_call 40; (with_reducible refine (rmay_any b W3 _ (by assumption)).mono ?_); rintro e w' ⟨rfl, hx'⟩; (try clear p0 p1 pf q0 q1 qf r0 r1 rf sz sz0 sz1); obtain ⟨⟨p0, p1, pf⟩, ⟨q0, q1, qf⟩, ⟨r0, r1, rf⟩, sz⟩ := MK.out _ hx'; have sz1 := Nat.lt_of_succ_lt sz; have sz0 := Nat.lt_of_succ_lt sz1)
        | (go_at_call 45; (with_reducible refine (rkcut_any a _ W3 _ (by assumption) ha).mono ?_); rintro e w' ⟨rfl, hx'⟩; (try clear p0 p1 pf q0 q1 qf r0 r1 rf sz sz0 sz1); obtain ⟨⟨p0, p1, pf⟩, ⟨q0, q1, qf⟩, ⟨r0, r1, rf⟩, sz⟩ := MK.out _ hx'; have sz1 := Nat.lt_of_succ_lt sz; have sz0 := Nat.lt_of_succ_lt sz1)
        | fail)
      obtain ⟨W4, hW4⟩ : ∃ W4, W4 = (w'.setCell ⟨w.heap.size, 0, none⟩ (.int .u64 (kcut a 32).v)).setCell ⟨w.heap.size, 1, none⟩ (.int .u64 (kcut a 32).m) := ⟨_, rfl⟩
      rw [← hW4]
      have c := MK.out _ hx'
      have c0 := c.1.put (.int .u64 (kcut a 32).v) (.int .u64 (kcut a 32).m)
      rw [← hW4] at c0
      have c1 := c.2.1.off (w.heap.size) (.int .u64 (kcut a 32).v) (.int .u64 (kcut a 32).m) (by omega)
      rw [← hW4] at c1
      have c2 := c.2.2.1.off (w.heap.size) (.int .u64 (kcut a 32).v) (.int .u64 (kcut a 32).m) (by omega)
      rw [← hW4] at c2
      have xW4 : Ext w W4 := by rw [hW4]; exact (x3.trans hx').store2 (by omega) _ _
      have sW4 : w.heap.size + 1 + 1 < W4.heap.size := by rw [hW4]; simpa [World.setCell] using sz
      clear hW4 p0 p1 pf q0 q1 qf r0 r1 rf sz sz0 sz1 c hx'
      have MW4 := hide (fun w' (h : Ext W4 w') => And.intro (c0.ext h) (And.intro (c1.ext h) (And.intro (c2.ext h) (Nat.lt_of_lt_of_le sW4 h.size))))
      clear c0 c1 c2 sW4
      have hx' : Ext W4 W4 := Ext.refl _
      (try clear p0 p1 pf q0 q1 qf r0 r1 rf sz sz0 sz1); obtain ⟨⟨p0, p1, pf⟩, ⟨q0, q1, qf⟩, ⟨r0, r1, rf⟩, sz⟩ := MW4.out _ hx'; have sz1 := Nat.lt_of_succ_lt sz; have sz0 := Nat.lt_of_succ_lt sz1
      go_wp2_with (first
        | (go_at_call 45; (with_reducible refine (rkcut_any b _ W4 _ (by assumption) hb).mono ?_); rintro e w' ⟨rfl, hx'⟩; (try clear p0 p1 pf q0 q1 qf r0 r1 rf sz sz0 sz1); obtain ⟨⟨p0, p1, pf⟩, ⟨q0, q1, qf⟩, ⟨r0, r1, rf⟩, sz⟩ := MW4.out _ hx'; have sz1 := Nat.lt_of_succ_lt sz; have sz0 := Nat.lt_of_succ_lt sz1)
        | fail)
      obtain ⟨W5, hW5⟩ : ∃ W5, W5 = (w'.setCell ⟨w.heap.size + 1, 0, none⟩ (.int .u64 (kcut b 32).v)).setCell ⟨w.heap.size + 1, 1, none⟩ (.int .u64 (kcut b 32).m) := ⟨_, rfl⟩
      rw [← hW5]
      have c := MW4.out _ hx'
      have c0 := c.1.off (w.heap.size + 1) (.int .u64 (kcut b 32).v) (.int .u64 (kcut b 32).m) (by omega)
      rw [← hW5] at c0
      have c1 := c.2.1.put (.int .u64 (kcut b 32).v) (.int .u64 (kcut b 32).m)
      rw [← hW5] at c1
      have c2 := c.2.2.1.off (w.heap.size + 1) (.int .u64 (kcut b 32).v) (.int .u64 (kcut b 32).m) (by omega)
      rw [← hW5] at c2
      have xW5 : Ext w W5 := by rw [hW5]; exact (xW4.trans hx').store2 (by omega) _ _
      have sW5 : w.heap.size + 1 + 1 < W5.heap.size := by rw [hW5]; simpa [World.setCell] using sz
      clear hW5 p0 p1 pf q0 q1 qf r0 r1 rf sz sz0 sz1 c hx'
      have MW5 := hide (fun w' (h : Ext W5 w') => And.intro (c0.ext h) (And.intro (c1.ext h) (And.intro (c2.ext h) (Nat.lt_of_lt_of_le sW5 h.size))))
      clear c0 c1 c2 sW5
      have hx' : Ext W5 W5 := Ext.refl _
      (try clear p0 p1 pf q0 q1 qf r0 r1 rf sz sz0 sz1); obtain ⟨⟨p0, p1, pf⟩, ⟨q0, q1, qf⟩, ⟨r0, r1, rf⟩, sz⟩ := MW5.out _ hx'; have sz1 := Nat.lt_of_succ_lt sz; have sz0 := Nat.lt_of_succ_lt sz1
      have wk : (kop 1 32 (kcut a 32) (kcut b 32)).wf := HWK.out
      go_wp2_with (first
        | (go_at_call 48; (with_reducible refine (rall_any W5 _ (by assumption)).mono ?_); rintro e w' ⟨rfl, hx'⟩; (try clear p0 p1 pf q0 q1 qf r0 r1 rf sz sz0 sz1); obtain ⟨⟨p0, p1, pf⟩, ⟨q0, q1, qf⟩, ⟨r0, r1, rf⟩, sz⟩ := MW5.out _ hx'; have sz1 := Nat.lt_of_succ_lt sz; have sz0 := Nat.lt_of_succ_lt sz1)
        | (go_at_call 63; (with_reducible refine (rsub_any (kcut a 32) (kcut b 32) _ _ (Ext.refl _)).mono ?_); rintro e w' ⟨rfl, hy⟩; have hx5 := hx'; have hx' := (hx5.alloc _).trans hy; (try clear p0 p1 pf q0 q1 qf r0 r1 rf sz sz0 sz1); obtain ⟨⟨p0, p1, pf⟩, ⟨q0, q1, qf⟩, ⟨r0, r1, rf⟩, sz⟩ := MW5.out _ hx'; have sz1 := Nat.lt_of_succ_lt sz; have sz0 := Nat.lt_of_succ_lt sz1; obtain ⟨⟨o0, o1, of⟩, so⟩ := new1 hy; have so' := Ext.size hx5; clear hy)
        | (go_at_call 45; refine (rkcut_any (ksub (kcut a 32) (kcut b 32)) _ W5 _ (by with_reducible repeat (first | assumption | apply Ext.alloc | apply Ext.drew | (refine Ext.store1 ?_ (by omega) _))) (wk)).mono ?_; rintro e w' ⟨rfl, hx'⟩; (try clear p0 p1 pf q0 q1 qf r0 r1 rf sz sz0 sz1); obtain ⟨⟨p0, p1, pf⟩, ⟨q0, q1, qf⟩, ⟨r0, r1, rf⟩, sz⟩ := MW5.out _ hx'; have sz1 := Nat.lt_of_succ_lt sz; have sz0 := Nat.lt_of_succ_lt sz1)
        | fail)
      exact bodyPost_ret (by simp [results, Try.results25, go_sem, r0, r1, sz, Nat.ne_of_lt sz, Nat.ne_of_gt sz] <;> (first | exact ⟨rfl, rfl⟩ | rfl)) rfl ⟨rfl, by (refine hx.trans ?_; with_reducible repeat (first | assumption | exact xW5.trans hx' | apply Ext.alloc | apply Ext.drew | (refine Ext.store1 ?_ (by omega) _)))⟩
  · rcases hc with m1 | ⟨m1, m2⟩
    all_goals
      go_enter Try.func25, Try.ntmps25
      go_wp2_with fail
      rw [← hW3]
      clear hW3
      (try clear p0 p1 pf q0 q1 qf r0 r1 rf sz sz0 sz1); obtain ⟨⟨p0, p1, pf⟩, ⟨q0, q1, qf⟩, ⟨r0, r1, rf⟩, sz⟩ := MK.out _ hx'; have sz1 := Nat.lt_of_succ_lt sz; have sz0 := Nat.lt_of_succ_lt sz1
      go_wp2_with (first
        | (go_at_call 40; (with_reducible refine (rmay_any a W3 _ (by assumption)).mono ?_); rintro e w' ⟨rfl, hx'⟩; (try clear p0 p1 pf q0 q1 qf r0 r1 rf sz sz0 sz1); obtain ⟨⟨p0, p1, pf⟩, ⟨q0, q1, qf⟩, ⟨r0, r1, rf⟩, sz⟩ := MK.out _ hx'; have sz1 := Nat.lt_of_succ_lt sz; have sz0 := Nat.lt_of_succ_lt sz1)
        | (go_at_call 40; (with_reducible refine (rmay_any b W3 _ (by assumption)).mono ?_); rintro e w' ⟨rfl, hx'⟩; (try clear p0 p1 pf q0 q1 qf r0 r1 rf sz sz0 sz1); obtain ⟨⟨p0, p1, pf⟩, ⟨q0, q1, qf⟩, ⟨r0, r1, rf⟩, sz⟩ := MK.out _ hx'; have sz1 := Nat.lt_of_succ_lt sz; have sz0 := Nat.lt_of_succ_lt sz1)
        | (go_at_call 45; (with_reducible refine (rkcut_any a _ W3 _ (by assumption) ha).mono ?_); rintro e w' ⟨rfl, hx'⟩; (try clear p0 p1 pf q0 q1 qf r0 r1 rf sz sz0 sz1); obtain ⟨⟨p0, p1, pf⟩, ⟨q0, q1, qf⟩, ⟨r0, r1, rf⟩, sz⟩ := MK.out _ hx'; have sz1 := Nat.lt_of_succ_lt sz; have sz0 := Nat.lt_of_succ_lt sz1)
        | fail)
      obtain ⟨W4, hW4⟩ : ∃ W4, W4 = (w'.setCell ⟨w.heap.size, 0, none⟩ (.int .u64 (kcut a 32).v)).setCell ⟨w.heap.size, 1, none⟩ (.int .u64 (kcut a 32).m) := ⟨_, rfl⟩
      rw [← hW4]
      have c := MK.out _ hx'
      have c0 := c.1.put (.int .u64 (kcut a 32).v) (.int .u64 (kcut a 32).m)
      rw [← hW4] at c0
      have c1 := c.2.1.off (w.heap.size) (.int .u64 (kcut a 32).v) (.int .u64 (kcut a 32).m) (by omega)
      rw [← hW4] at c1
      have c2 := c.2.2.1.off (w.heap.size) (.int .u64 (kcut a 32).v) (.int .u64 (kcut a 32).m) (by omega)
      rw [← hW4] at c2
      have xW4 : Ext w W4 := by rw [hW4]; exact (x3.trans hx').store2 (by omega) _ _
      have sW4 : w.heap.size + 1 + 1 < W4.heap.size := by rw [hW4]; simpa [World.setCell] using sz
      clear hW4 p0 p1 pf q0 q1 qf r0 r1 rf sz sz0 sz1 c hx'
      have MW4 := hide (fun w' (h : Ext W4 w') => And.intro (c0.ext h) (And.intro (c1.ext h) (And.intro (c2.ext h) (Nat.lt_of_lt_of_le sW4 h.size))))
      clear c0 c1 c2 sW4
      have hx' : Ext W4 W4 := Ext.refl _
      (try clear p0 p1 pf q0 q1 qf r0 r1 rf sz sz0 sz1); obtain ⟨⟨p0, p1, pf⟩, ⟨q0, q1, qf⟩, ⟨r0, r1, rf⟩, sz⟩ := MW4.out _ hx'; have sz1 := Nat.lt_of_succ_lt sz; have sz0 := Nat.lt_of_succ_lt sz1
      go_wp2_with (first
        | (go_at_call 45; (with_reducible refine (rkcut_any b _ W4 _ (by assumption) hb).mono ?_); rintro e w' ⟨rfl, hx'⟩; (try clear p0 p1 pf q0 q1 qf r0 r1 rf sz sz0 sz1); obtain ⟨⟨p0, p1, pf⟩, ⟨q0, q1, qf⟩, ⟨r0, r1, rf⟩, sz⟩ := MW4.out _ hx'; have sz1 := Nat.lt_of_succ_lt sz; have sz0 := Nat.lt_of_succ_lt sz1)
        | fail)
      obtain ⟨W5, hW5⟩ : ∃ W5, W5 = (w'.setCell ⟨w.heap.size + 1, 0, none⟩ (.int .u64 (kcut b 32).v)).setCell ⟨w.heap.size + 1, 1, none⟩ (.int .u64 (kcut b 32).m) := ⟨_, rfl⟩
      rw [← hW5]
      have c := MW4.out _ hx'
      have c0 := c.1.off (w.heap.size + 1) (.int .u64 (kcut b 32).v) (.int .u64 (kcut b 32).m) (by omega)
      rw [← hW5] at c0
      have c1 := c.2.1.put (.int .u64 (kcut b 32).v) (.int .u64 (kcut b 32).m)
      rw [← hW5] at c1
      have c2 := c.2.2.1.off (w.heap.size + 1) (.int .u64 (kcut b 32).v) (.int .u64 (kcut b 32).m) (by omega)
      rw [← hW5] at c2
      have xW5 : Ext w W5 := by rw [hW5]; exact (xW4.trans hx').store2 (by omega) _ _
      have sW5 : w.heap.size + 1 + 1 < W5.heap.size := by rw [hW5]; simpa [World.setCell] using sz
      clear hW5 p0 p1 pf q0 q1 qf r0 r1 rf sz sz0 sz1 c hx'
      have MW5 := hide (fun w' (h : Ext W5 w') => And.intro (c0.ext h) (And.intro (c1.ext h) (And.intro (c2.ext h) (Nat.lt_of_lt_of_le sW5 h.size))))
      clear c0 c1 c2 sW5
      have hx' : Ext W5 W5 := Ext.refl _
      (try clear p0 p1 pf q0 q1 qf r0 r1 rf sz sz0 sz1); obtain ⟨⟨p0, p1, pf⟩, ⟨q0, q1, qf⟩, ⟨r0, r1, rf⟩, sz⟩ := MW5.out _ hx'; have sz1 := Nat.lt_of_succ_lt sz; have sz0 := Nat.lt_of_succ_lt sz1
      have wk : (kop 2 32 (kcut a 32) (kcut b 32)).wf := HWK.out
      go_wp2_with (first
        | (go_at_call 48; (with_reducible refine (rall_any W5 _ (by assumption)).mono ?_); rintro e w' ⟨rfl, hx'⟩; (try clear p0 p1 pf q0 q1 qf r0 r1 rf sz sz0 sz1); obtain ⟨⟨p0, p1, pf⟩, ⟨q0, q1, qf⟩, ⟨r0, r1, rf⟩, sz⟩ := MW5.out _ hx'; have sz1 := Nat.lt_of_succ_lt sz; have sz0 := Nat.lt_of_succ_lt sz1)
        | (go_at_call 45; refine (rkcut_any kall _ W5 _ (by with_reducible repeat (first | assumption | apply Ext.alloc | apply Ext.drew | (refine Ext.store1 ?_ (by omega) _))) wf_kall).mono ?_; rintro e w' ⟨rfl, hx'⟩; (try clear p0 p1 pf q0 q1 qf r0 r1 rf sz sz0 sz1); obtain ⟨⟨p0, p1, pf⟩, ⟨q0, q1, qf⟩, ⟨r0, r1, rf⟩, sz⟩ := MW5.out _ hx'; have sz1 := Nat.lt_of_succ_lt sz; have sz0 := Nat.lt_of_succ_lt sz1)
        | fail)
      exact bodyPost_ret (by simp [results, Try.results25, go_sem, r0, r1, sz, Nat.ne_of_lt sz, Nat.ne_of_gt sz] <;> (first | exact ⟨rfl, rfl⟩ | rfl)) rfl ⟨rfl, by (refine hx.trans ?_; with_reducible repeat (first | assumption | exact xW5.trans hx' | apply Ext.alloc | apply Ext.drew | (refine Ext.store1 ?_ (by omega) _)))⟩
  · rcases hc with m1 | ⟨m1, m2⟩
    all_goals
      go_enter Try.func25, Try.ntmps25
      go_wp2_with fail
      rw [← hW3]
      clear hW3
      (try clear p0 p1 pf q0 q1 qf r0 r1 rf sz sz0 sz1); obtain ⟨⟨p0, p1, pf⟩, ⟨q0, q1, qf⟩, ⟨r0, r1, rf⟩, sz⟩ := MK.out _ hx'; have sz1 := Nat.lt_of_succ_lt sz; have sz0 := Nat.lt_of_succ_lt sz1
      go_wp2_with (first
        | (go_at_call 40; (with_reducible refine (rmay_any a W3 _ (by assumption)).mono ?_); rintro e w' ⟨rfl, hx'⟩; (try clear p0 p1 pf q0 q1 qf r0 r1 rf sz sz0 sz1); obtain ⟨⟨p0, p1, pf⟩, ⟨q0, q1, qf⟩, ⟨r0, r1, rf⟩, sz⟩ := MK.out _ hx'; have sz1 := Nat.lt_of_succ_lt sz; have sz0 := Nat.lt_of_succ_lt sz1)
        | (go_at_call 40; (with_reducible refine (rmay_any b W3 _ (by assumption)).mono ?_); rintro e w' ⟨rfl, hx'⟩; (try clear p0 p1 pf q0 q1 qf r0 r1 rf sz sz0 sz1); obtain ⟨⟨p0, p1, pf⟩, ⟨q0, q1, qf⟩, ⟨r0, r1, rf⟩, sz⟩ := MK.out _ hx'; have sz1 := Nat.lt_of_succ_lt sz; have sz0 := Nat.lt_of_succ_lt sz1)
        | (go_at_call 45; (with_reducible refine (rkcut_any a _ W3 _ (by assumption) ha).mono ?_); rintro e w' ⟨rfl, hx'⟩; (try clear p0 p1 pf q0 q1 qf r0 r1 rf sz sz0 sz1); obtain ⟨⟨p0, p1, pf⟩, ⟨q0, q1, qf⟩, ⟨r0, r1, rf⟩, sz⟩ := MK.out _ hx'; have sz1 := Nat.lt_of_succ_lt sz; have sz0 := Nat.lt_of_succ_lt sz1)
        | fail)
      obtain ⟨W4, hW4⟩ : ∃ W4, W4 = (w'.setCell ⟨w.heap.size, 0, none⟩ (.int .u64 (kcut a 32).v)).setCell ⟨w.heap.size, 1, none⟩ (.int .u64 (kcut a 32).m) := ⟨_, rfl⟩
      rw [← hW4]
      have c := MK.out _ hx'
      have c0 := c.1.put (.int .u64 (kcut a 32).v) (.int .u64 (kcut a 32).m)
      rw [← hW4] at c0
      have c1 := c.2.1.off (w.heap.size) (.int .u64 (kcut a 32).v) (.int .u64 (kcut a 32).m) (by omega)
      rw [← hW4] at c1
      have c2 := c.2.2.1.off (w.heap.size) (.int .u64 (kcut a 32).v) (.int .u64 (kcut a 32).m) (by omega)
      rw [← hW4] at c2
      have xW4 : Ext w W4 := by rw [hW4]; exact (x3.trans hx').store2 (by omega) _ _
      have sW4 : w.heap.size + 1 + 1 < W4.heap.size := by rw [hW4]; simpa [World.setCell] using sz
      clear hW4 p0 p1 pf q0 q1 qf r0 r1 rf sz sz0 sz1 c hx'
      have MW4 := hide (fun w' (h : Ext W4 w') => And.intro (c0.ext h) (And.intro (c1.ext h) (And.intro (c2.ext h) (Nat.lt_of_lt_of_le sW4 h.size))))
      clear c0 c1 c2 sW4
      have hx' : Ext W4 W4 := Ext.refl _
      (try clear p0 p1 pf q0 q1 qf r0 r1 rf sz sz0 sz1); obtain ⟨⟨p0, p1, pf⟩, ⟨q0, q1, qf⟩, ⟨r0, r1, rf⟩, sz⟩ := MW4.out _ hx'; have sz1 := Nat.lt_of_succ_lt sz; have sz0 := Nat.lt_of_succ_lt sz1
      go_wp2_with (first
        | (go_at_call 45; (with_reducible refine (rkcut_any b _ W4 _ (by assumption) hb).mono ?_); rintro e w' ⟨rfl, hx'⟩; (try clear p0 p1 pf q0 q1 qf r0 r1 rf sz sz0 sz1); obtain ⟨⟨p0, p1, pf⟩, ⟨q0, q1, qf⟩, ⟨r0, r1, rf⟩, sz⟩ := MW4.out _ hx'; have sz1 := Nat.lt_of_succ_lt sz; have sz0 := Nat.lt_of_succ_lt sz1)
        | fail)
      obtain ⟨W5, hW5⟩ : ∃ W5, W5 = (w'.setCell ⟨w.heap.size + 1, 0, none⟩ (.int .u64 (kcut b 32).v)).setCell ⟨w.heap.size + 1, 1, none⟩ (.int .u64 (kcut b 32).m) := ⟨_, rfl⟩
      rw [← hW5]
      have c := MW4.out _ hx'
      have c0 := c.1.off (w.heap.size + 1) (.int .u64 (kcut b 32).v) (.int .u64 (kcut b 32).m) (by omega)
      rw [← hW5] at c0
      have c1 := c.2.1.put (.int .u64 (kcut b 32).v) (.int .u64 (kcut b 32).m)
      rw [← hW5] at c1
      have c2 := c.2.2.1.off (w.heap.size + 1) (.int .u64 (kcut b 32).v) (.int .u64 (kcut b 32).m) (by omega)
      rw [← hW5] at c2
      have xW5 : Ext w W5 := by rw [hW5]; exact (xW4.trans hx').store2 (by omega) _ _
      have sW5 : w.heap.size + 1 + 1 < W5.heap.size := by rw [hW5]; simpa [World.setCell] using sz
      clear hW5 p0 p1 pf q0 q1 qf r0 r1 rf sz sz0 sz1 c hx'
      have MW5 := hide (fun w' (h : Ext W5 w') => And.intro (c0.ext h) (And.intro (c1.ext h) (And.intro (c2.ext h) (Nat.lt_of_lt_of_le sW5 h.size))))
      clear c0 c1 c2 sW5
      have hx' : Ext W5 W5 := Ext.refl _
      (try clear p0 p1 pf q0 q1 qf r0 r1 rf sz sz0 sz1); obtain ⟨⟨p0, p1, pf⟩, ⟨q0, q1, qf⟩, ⟨r0, r1, rf⟩, sz⟩ := MW5.out _ hx'; have sz1 := Nat.lt_of_succ_lt sz; have sz0 := Nat.lt_of_succ_lt sz1
      have wk : (kop 3 32 (kcut a 32) (kcut b 32)).wf := HWK.out
      go_wp2_with (first
        | (go_at_call 48; (with_reducible refine (rall_any W5 _ (by assumption)).mono ?_); rintro e w' ⟨rfl, hx'⟩; (try clear p0 p1 pf q0 q1 qf r0 r1 rf sz sz0 sz1); obtain ⟨⟨p0, p1, pf⟩, ⟨q0, q1, qf⟩, ⟨r0, r1, rf⟩, sz⟩ := MW5.out _ hx'; have sz1 := Nat.lt_of_succ_lt sz; have sz0 := Nat.lt_of_succ_lt sz1)
        | (go_at_call 45; refine (rkcut_any kall _ W5 _ (by with_reducible repeat (first | assumption | apply Ext.alloc | apply Ext.drew | (refine Ext.store1 ?_ (by omega) _))) wf_kall).mono ?_; rintro e w' ⟨rfl, hx'⟩; (try clear p0 p1 pf q0 q1 qf r0 r1 rf sz sz0 sz1); obtain ⟨⟨p0, p1, pf⟩, ⟨q0, q1, qf⟩, ⟨r0, r1, rf⟩, sz⟩ := MW5.out _ hx'; have sz1 := Nat.lt_of_succ_lt sz; have sz0 := Nat.lt_of_succ_lt sz1)
        | fail)
      exact bodyPost_ret (by simp [results, Try.results25, go_sem, r0, r1, sz, Nat.ne_of_lt sz, Nat.ne_of_gt sz] <;> (first | exact ⟨rfl, rfl⟩ | rfl)) rfl ⟨rfl, by (refine hx.trans ?_; with_reducible repeat (first | assumption | exact xW5.trans hx' | apply Ext.alloc | apply Ext.drew | (refine Ext.store1 ?_ (by omega) _)))⟩
  · rcases hc with m1 | ⟨m1, m2⟩
    all_goals
      go_enter Try.func25, Try.ntmps25
      go_wp2_with fail
      rw [← hW3]
      clear hW3
      (try clear p0 p1 pf q0 q1 qf r0 r1 rf sz sz0 sz1); obtain ⟨⟨p0, p1, pf⟩, ⟨q0, q1, qf⟩, ⟨r0, r1, rf⟩, sz⟩ := MK.out _ hx'; have sz1 := Nat.lt_of_succ_lt sz; have sz0 := Nat.lt_of_succ_lt sz1
      go_wp2_with (first
        | (go_at_call 40; (with_reducible refine (rmay_any a W3 _ (by assumption)).mono ?_); rintro e w' ⟨rfl, hx'⟩; (try clear p0 p1 pf q0 q1 qf r0 r1 rf sz sz0 sz1); obtain ⟨⟨p0, p1, pf⟩, ⟨q0, q1, qf⟩, ⟨r0, r1, rf⟩, sz⟩ := MK.out _ hx'; have sz1 := Nat.lt_of_succ_lt sz; have sz0 := Nat.lt_of_succ_lt sz1)
        | (go_at_call 40; (with_reducible refine (rmay_any b W3 _ (by assumption)).mono ?_); rintro e w' ⟨rfl, hx'⟩; (try clear p0 p1 pf q0 q1 qf r0 r1 rf sz sz0 sz1); obtain ⟨⟨p0, p1, pf⟩, ⟨q0, q1, qf⟩, ⟨r0, r1, rf⟩, sz⟩ := MK.out _ hx'; have sz1 := Nat.lt_of_succ_lt sz; have sz0 := Nat.lt_of_succ_lt sz1)
        | (go_at_call 45; (with_reducible refine (rkcut_any a _ W3 _ (by assumption) ha).mono ?_); rintro e w' ⟨rfl, hx'⟩; (try clear p0 p1 pf q0 q1 qf r0 r1 rf sz sz0 sz1); obtain ⟨⟨p0, p1, pf⟩, ⟨q0, q1, qf⟩, ⟨r0, r1, rf⟩, sz⟩ := MK.out _ hx'; have sz1 := Nat.lt_of_succ_lt sz; have sz0 := Nat.lt_of_succ_lt sz1)
        | fail)
      obtain ⟨W4, hW4⟩ : ∃ W4, W4 = (w'.setCell ⟨w.heap.size, 0, none⟩ (.int .u64 (kcut a 32).v)).setCell ⟨w.heap.size, 1, none⟩ (.int .u64 (kcut a 32).m) := ⟨_, rfl⟩
      rw [← hW4]
      have c := MK.out _ hx'
      have c0 := c.1.put (.int .u64 (kcut a 32).v) (.int .u64 (kcut a 32).m)
      rw [← hW4] at c0
      have c1 := c.2.1.off (w.heap.size) (.int .u64 (kcut a 32).v) (.int .u64 (kcut a 32).m) (by omega)
      rw [← hW4] at c1
      have c2 := c.2.2.1.off (w.heap.size) (.int .u64 (kcut a 32).v) (.int .u64 (kcut a 32).m) (by omega)
      rw [← hW4] at c2
      have xW4 : Ext w W4 := by rw [hW4]; exact (x3.trans hx').store2 (by omega) _ _
      have sW4 : w.heap.size + 1 + 1 < W4.heap.size := by rw [hW4]; simpa [World.setCell] using sz
      clear hW4 p0 p1 pf q0 q1 qf r0 r1 rf sz sz0 sz1 c hx'
      have MW4 := hide (fun w' (h : Ext W4 w') => And.intro (c0.ext h) (And.intro (c1.ext h) (And.intro (c2.ext h) (Nat.lt_of_lt_of_le sW4 h.size))))
      clear c0 c1 c2 sW4
      have hx' : Ext W4 W4 := Ext.refl _
      (try clear p0 p1 pf q0 q1 qf r0 r1 rf sz sz0 sz1); obtain ⟨⟨p0, p1, pf⟩, ⟨q0, q1, qf⟩, ⟨r0, r1, rf⟩, sz⟩ := MW4.out _ hx'; have sz1 := Nat.lt_of_succ_lt sz; have sz0 := Nat.lt_of_succ_lt sz1
      go_wp2_with (first
        | (go_at_call 45; (with_reducible refine (rkcut_any b _ W4 _ (by assumption) hb).mono ?_); rintro e w' ⟨rfl, hx'⟩; (try clear p0 p1 pf q0 q1 qf r0 r1 rf sz sz0 sz1); obtain ⟨⟨p0, p1, pf⟩, ⟨q0, q1, qf⟩, ⟨r0, r1, rf⟩, sz⟩ := MW4.out _ hx'; have sz1 := Nat.lt_of_succ_lt sz; have sz0 := Nat.lt_of_succ_lt sz1)
        | fail)
      obtain ⟨W5, hW5⟩ : ∃ W5, W5 = (w'.setCell ⟨w.heap.size + 1, 0, none⟩ (.int .u64 (kcut b 32).v)).setCell ⟨w.heap.size + 1, 1, none⟩ (.int .u64 (kcut b 32).m) := ⟨_, rfl⟩
      rw [← hW5]
      have c := MW4.out _ hx'
      have c0 := c.1.off (w.heap.size + 1) (.int .u64 (kcut b 32).v) (.int .u64 (kcut b 32).m) (by omega)
      rw [← hW5] at c0
      have c1 := c.2.1.put (.int .u64 (kcut b 32).v) (.int .u64 (kcut b 32).m)
      rw [← hW5] at c1
      have c2 := c.2.2.1.off (w.heap.size + 1) (.int .u64 (kcut b 32).v) (.int .u64 (kcut b 32).m) (by omega)
      rw [← hW5] at c2
      have xW5 : Ext w W5 := by rw [hW5]; exact (xW4.trans hx').store2 (by omega) _ _
      have sW5 : w.heap.size + 1 + 1 < W5.heap.size := by rw [hW5]; simpa [World.setCell] using sz
      clear hW5 p0 p1 pf q0 q1 qf r0 r1 rf sz sz0 sz1 c hx'
      have MW5 := hide (fun w' (h : Ext W5 w') => And.intro (c0.ext h) (And.intro (c1.ext h) (And.intro (c2.ext h) (Nat.lt_of_lt_of_le sW5 h.size))))
      clear c0 c1 c2 sW5
      have hx' : Ext W5 W5 := Ext.refl _
      (try clear p0 p1 pf q0 q1 qf r0 r1 rf sz sz0 sz1); obtain ⟨⟨p0, p1, pf⟩, ⟨q0, q1, qf⟩, ⟨r0, r1, rf⟩, sz⟩ := MW5.out _ hx'; have sz1 := Nat.lt_of_succ_lt sz; have sz0 := Nat.lt_of_succ_lt sz1
      have wk : (kop 4 32 (kcut a 32) (kcut b 32)).wf := HWK.out
      go_wp2_with (first
        | (go_at_call 48; (with_reducible refine (rall_any W5 _ (by assumption)).mono ?_); rintro e w' ⟨rfl, hx'⟩; (try clear p0 p1 pf q0 q1 qf r0 r1 rf sz sz0 sz1); obtain ⟨⟨p0, p1, pf⟩, ⟨q0, q1, qf⟩, ⟨r0, r1, rf⟩, sz⟩ := MW5.out _ hx'; have sz1 := Nat.lt_of_succ_lt sz; have sz0 := Nat.lt_of_succ_lt sz1)
        | (go_at_call 45; refine (rkcut_any (kor (kcut a 32) (kcut b 32)) _ W5 _ (by with_reducible repeat (first | assumption | apply Ext.alloc | apply Ext.drew | (refine Ext.store1 ?_ (by omega) _))) wk).mono ?_; rintro e w' ⟨rfl, hx'⟩; (try clear p0 p1 pf q0 q1 qf r0 r1 rf sz sz0 sz1); obtain ⟨⟨p0, p1, pf⟩, ⟨q0, q1, qf⟩, ⟨r0, r1, rf⟩, sz⟩ := MW5.out _ hx'; have sz1 := Nat.lt_of_succ_lt sz; have sz0 := Nat.lt_of_succ_lt sz1)
        | fail)
      exact bodyPost_ret (by simp [results, Try.results25, go_sem, r0, r1, sz, Nat.ne_of_lt sz, Nat.ne_of_gt sz] <;> (first | exact ⟨rfl, rfl⟩ | rfl)) rfl ⟨rfl, by (refine hx.trans ?_; with_reducible repeat (first | assumption | exact xW5.trans hx' | apply Ext.alloc | apply Ext.drew | (refine Ext.store1 ?_ (by omega) _)))⟩
  · rcases hc with m1 | ⟨m1, m2⟩
    all_goals
      go_enter Try.func25, Try.ntmps25
      go_wp2_with fail
      rw [← hW3]
      clear hW3
      (try clear p0 p1 pf q0 q1 qf r0 r1 rf sz sz0 sz1); obtain ⟨⟨p0, p1, pf⟩, ⟨q0, q1, qf⟩, ⟨r0, r1, rf⟩, sz⟩ := MK.out _ hx'; have sz1 := Nat.lt_of_succ_lt sz; have sz0 := Nat.lt_of_succ_lt sz1
      go_wp2_with (first
        | (go_at_call 40; (with_reducible refine (rmay_any a W3 _ (by assumption)).mono ?_); rintro e w' ⟨rfl, hx'⟩; (try clear p0 p1 pf q0 q1 qf r0 r1 rf sz sz0 sz1); obtain ⟨⟨p0, p1, pf⟩, ⟨q0, q1, qf⟩, ⟨r0, r1, rf⟩, sz⟩ := MK.out _ hx'; have sz1 := Nat.lt_of_succ_lt sz; have sz0 := Nat.lt_of_succ_lt sz1)
        | (go_at_call 40; (with_reducible refine (rmay_any b W3 _ (by assumption)).mono ?_); rintro e w' ⟨rfl, hx'⟩; (try clear p0 p1 pf q0 q1 qf r0 r1 rf sz sz0 sz1); obtain ⟨⟨p0, p1, pf⟩, ⟨q0, q1, qf⟩, ⟨r0, r1, rf⟩, sz⟩ := MK.out _ hx'; have sz1 := Nat.lt_of_succ_lt sz; have sz0 := Nat.lt_of_succ_lt sz1)
        | (go_at_call 45; (with_reducible refine (rkcut_any a _ W3 _ (by assumption) ha).mono ?_); rintro e w' ⟨rfl, hx'⟩; (try clear p0 p1 pf q0 q1 qf r0 r1 rf sz sz0 sz1); obtain ⟨⟨p0, p1, pf⟩, ⟨q0, q1, qf⟩, ⟨r0, r1, rf⟩, sz⟩ := MK.out _ hx'; have sz1 := Nat.lt_of_succ_lt sz; have sz0 := Nat.lt_of_succ_lt sz1)
        | fail)
      obtain ⟨W4, hW4⟩ : ∃ W4, W4 = (w'.setCell ⟨w.heap.size, 0, none⟩ (.int .u64 (kcut a 32).v)).setCell ⟨w.heap.size, 1, none⟩ (.int .u64 (kcut a 32).m) := ⟨_, rfl⟩
      rw [← hW4]
      have c := MK.out _ hx'
      have c0 := c.1.put (.int .u64 (kcut a 32).v) (.int .u64 (kcut a 32).m)
      rw [← hW4] at c0
      have c1 := c.2.1.off (w.heap.size) (.int .u64 (kcut a 32).v) (.int .u64 (kcut a 32).m) (by omega)
      rw [← hW4] at c1
      have c2 := c.2.2.1.off (w.heap.size) (.int .u64 (kcut a 32).v) (.int .u64 (kcut a 32).m) (by omega)
      rw [← hW4] at c2
      have xW4 : Ext w W4 := by rw [hW4]; exact (x3.trans hx').store2 (by omega) _ _
      have sW4 : w.heap.size + 1 + 1 < W4.heap.size := by rw [hW4]; simpa [World.setCell] using sz
      clear hW4 p0 p1 pf q0 q1 qf r0 r1 rf sz sz0 sz1 c hx'
      have MW4 := hide (fun w' (h : Ext W4 w') => And.intro (c0.ext h) (And.intro (c1.ext h) (And.intro (c2.ext h) (Nat.lt_of_lt_of_le sW4 h.size))))
      clear c0 c1 c2 sW4
      have hx' : Ext W4 W4 := Ext.refl _
      (try clear p0 p1 pf q0 q1 qf r0 r1 rf sz sz0 sz1); obtain ⟨⟨p0, p1, pf⟩, ⟨q0, q1, qf⟩, ⟨r0, r1, rf⟩, sz⟩ := MW4.out _ hx'; have sz1 := Nat.lt_of_succ_lt sz; have sz0 := Nat.lt_of_succ_lt sz1
      go_wp2_with (first
        | (go_at_call 45; (with_reducible refine (rkcut_any b _ W4 _ (by assumption) hb).mono ?_); rintro e w' ⟨rfl, hx'⟩; (try clear p0 p1 pf q0 q1 qf r0 r1 rf sz sz0 sz1); obtain ⟨⟨p0, p1, pf⟩, ⟨q0, q1, qf⟩, ⟨r0, r1, rf⟩, sz⟩ := MW4.out _ hx'; have sz1 := Nat.lt_of_succ_lt sz; have sz0 := Nat.lt_of_succ_lt sz1)
        | fail)
      obtain ⟨W5, hW5⟩ : ∃ W5, W5 = (w'.setCell ⟨w.heap.size + 1, 0, none⟩ (.int .u64 (kcut b 32).v)).setCell ⟨w.heap.size + 1, 1, none⟩ (.int .u64 (kcut b 32).m) := ⟨_, rfl⟩
      rw [← hW5]
      have c := MW4.out _ hx'
      have c0 := c.1.off (w.heap.size + 1) (.int .u64 (kcut b 32).v) (.int .u64 (kcut b 32).m) (by omega)
      rw [← hW5] at c0
      have c1 := c.2.1.put (.int .u64 (kcut b 32).v) (.int .u64 (kcut b 32).m)
      rw [← hW5] at c1
      have c2 := c.2.2.1.off (w.heap.size + 1) (.int .u64 (kcut b 32).v) (.int .u64 (kcut b 32).m) (by omega)
      rw [← hW5] at c2
      have xW5 : Ext w W5 := by rw [hW5]; exact (xW4.trans hx').store2 (by omega) _ _
      have sW5 : w.heap.size + 1 + 1 < W5.heap.size := by rw [hW5]; simpa [World.setCell] using sz
      clear hW5 p0 p1 pf q0 q1 qf r0 r1 rf sz sz0 sz1 c hx'
      have MW5 := hide (fun w' (h : Ext W5 w') => And.intro (c0.ext h) (And.intro (c1.ext h) (And.intro (c2.ext h) (Nat.lt_of_lt_of_le sW5 h.size))))
      clear c0 c1 c2 sW5
      have hx' : Ext W5 W5 := Ext.refl _
      (try clear p0 p1 pf q0 q1 qf r0 r1 rf sz sz0 sz1); obtain ⟨⟨p0, p1, pf⟩, ⟨q0, q1, qf⟩, ⟨r0, r1, rf⟩, sz⟩ := MW5.out _ hx'; have sz1 := Nat.lt_of_succ_lt sz; have sz0 := Nat.lt_of_succ_lt sz1
      have wk : (kop 5 32 (kcut a 32) (kcut b 32)).wf := HWK.out
      go_wp2_with (first
        | (go_at_call 48; (with_reducible refine (rall_any W5 _ (by assumption)).mono ?_); rintro e w' ⟨rfl, hx'⟩; (try clear p0 p1 pf q0 q1 qf r0 r1 rf sz sz0 sz1); obtain ⟨⟨p0, p1, pf⟩, ⟨q0, q1, qf⟩, ⟨r0, r1, rf⟩, sz⟩ := MW5.out _ hx'; have sz1 := Nat.lt_of_succ_lt sz; have sz0 := Nat.lt_of_succ_lt sz1)
        | (go_at_call 45; refine (rkcut_any (kand (kcut a 32) (kcut b 32)) _ W5 _ (by with_reducible repeat (first | assumption | apply Ext.alloc | apply Ext.drew | (refine Ext.store1 ?_ (by omega) _))) wk).mono ?_; rintro e w' ⟨rfl, hx'⟩; (try clear p0 p1 pf q0 q1 qf r0 r1 rf sz sz0 sz1); obtain ⟨⟨p0, p1, pf⟩, ⟨q0, q1, qf⟩, ⟨r0, r1, rf⟩, sz⟩ := MW5.out _ hx'; have sz1 := Nat.lt_of_succ_lt sz; have sz0 := Nat.lt_of_succ_lt sz1)
        | fail)
      exact bodyPost_ret (by simp [results, Try.results25, go_sem, r0, r1, sz, Nat.ne_of_lt sz, Nat.ne_of_gt sz] <;> (first | exact ⟨rfl, rfl⟩ | rfl)) rfl ⟨rfl, by (refine hx.trans ?_; with_reducible repeat (first | assumption | exact xW5.trans hx' | apply Ext.alloc | apply Ext.drew | (refine Ext.store1 ?_ (by omega) _)))⟩
  · rcases hc with m1 | ⟨m1, m2⟩
    all_goals
      rcases Bool.eq_false_or_eq_true (bits .and .u64 (kcut b 32).m (32 - 1) == 0) with hs | hs
      · have HS := hide hs
        have HK : Hid (kop 6 32 (kcut a 32) (kcut b 32) = (kshift 6 32 (kcut a 32) (kcut b 32))) := hide (by (have hs' : bits .and .u64 (kcut b 32).m 31 = 0 := (by simpa using hs)); simp [kop, hs'])
        clear hs
        go_enter Try.func25, Try.ntmps25
        go_wp2_with fail
        rw [← hW3]
        clear hW3
        (try clear p0 p1 pf q0 q1 qf r0 r1 rf sz sz0 sz1); obtain ⟨⟨p0, p1, pf⟩, ⟨q0, q1, qf⟩, ⟨r0, r1, rf⟩, sz⟩ := MK.out _ hx'; have sz1 := Nat.lt_of_succ_lt sz; have sz0 := Nat.lt_of_succ_lt sz1
        go_wp2_with (first
          | (go_at_call 40; (with_reducible refine (rmay_any a W3 _ (by assumption)).mono ?_); rintro e w' ⟨rfl, hx'⟩; (try clear p0 p1 pf q0 q1 qf r0 r1 rf sz sz0 sz1); obtain ⟨⟨p0, p1, pf⟩, ⟨q0, q1, qf⟩, ⟨r0, r1, rf⟩, sz⟩ := MK.out _ hx'; have sz1 := Nat.lt_of_succ_lt sz; have sz0 := Nat.lt_of_succ_lt sz1)
          | (go_at_call 40; (with_reducible refine (rmay_any b W3 _ (by assumption)).mono ?_); rintro e w' ⟨rfl, hx'⟩; (try clear p0 p1 pf q0 q1 qf r0 r1 rf sz sz0 sz1); obtain ⟨⟨p0, p1, pf⟩, ⟨q0, q1, qf⟩, ⟨r0, r1, rf⟩, sz⟩ := MK.out _ hx'; have sz1 := Nat.lt_of_succ_lt sz; have sz0 := Nat.lt_of_succ_lt sz1)
          | (go_at_call 45; (with_reducible refine (rkcut_any a _ W3 _ (by assumption) ha).mono ?_); rintro e w' ⟨rfl, hx'⟩; (try clear p0 p1 pf q0 q1 qf r0 r1 rf sz sz0 sz1); obtain ⟨⟨p0, p1, pf⟩, ⟨q0, q1, qf⟩, ⟨r0, r1, rf⟩, sz⟩ := MK.out _ hx'; have sz1 := Nat.lt_of_succ_lt sz; have sz0 := Nat.lt_of_succ_lt sz1)
          | fail)
        obtain ⟨W4, hW4⟩ : ∃ W4, W4 = (w'.setCell ⟨w.heap.size, 0, none⟩ (.int .u64 (kcut a 32).v)).setCell ⟨w.heap.size, 1, none⟩ (.int .u64 (kcut a 32).m) := ⟨_, rfl⟩
        rw [← hW4]
        have c := MK.out _ hx'
        have c0 := c.1.put (.int .u64 (kcut a 32).v) (.int .u64 (kcut a 32).m)
        rw [← hW4] at c0
        have c1 := c.2.1.off (w.heap.size) (.int .u64 (kcut a 32).v) (.int .u64 (kcut a 32).m) (by omega)
        rw [← hW4] at c1
        have c2 := c.2.2.1.off (w.heap.size) (.int .u64 (kcut a 32).v) (.int .u64 (kcut a 32).m) (by omega)
        rw [← hW4] at c2
        have xW4 : Ext w W4 := by rw [hW4]; exact (x3.trans hx').store2 (by omega) _ _
        have sW4 : w.heap.size + 1 + 1 < W4.heap.size := by rw [hW4]; simpa [World.setCell] using sz
        clear hW4 p0 p1 pf q0 q1 qf r0 r1 rf sz sz0 sz1 c hx'
        have MW4 := hide (fun w' (h : Ext W4 w') => And.intro (c0.ext h) (And.intro (c1.ext h) (And.intro (c2.ext h) (Nat.lt_of_lt_of_le sW4 h.size))))
        clear c0 c1 c2 sW4
        have hx' : Ext W4 W4 := Ext.refl _
        (try clear p0 p1 pf q0 q1 qf r0 r1 rf sz sz0 sz1); obtain ⟨⟨p0, p1, pf⟩, ⟨q0, q1, qf⟩, ⟨r0, r1, rf⟩, sz⟩ := MW4.out _ hx'; have sz1 := Nat.lt_of_succ_lt sz; have sz0 := Nat.lt_of_succ_lt sz1
        go_wp2_with (first
          | (go_at_call 45; (with_reducible refine (rkcut_any b _ W4 _ (by assumption) hb).mono ?_); rintro e w' ⟨rfl, hx'⟩; (try clear p0 p1 pf q0 q1 qf r0 r1 rf sz sz0 sz1); obtain ⟨⟨p0, p1, pf⟩, ⟨q0, q1, qf⟩, ⟨r0, r1, rf⟩, sz⟩ := MW4.out _ hx'; have sz1 := Nat.lt_of_succ_lt sz; have sz0 := Nat.lt_of_succ_lt sz1)
          | fail)
        obtain ⟨W5, hW5⟩ : ∃ W5, W5 = (w'.setCell ⟨w.heap.size + 1, 0, none⟩ (.int .u64 (kcut b 32).v)).setCell ⟨w.heap.size + 1, 1, none⟩ (.int .u64 (kcut b 32).m) := ⟨_, rfl⟩
        rw [← hW5]
        have c := MW4.out _ hx'
        have c0 := c.1.off (w.heap.size + 1) (.int .u64 (kcut b 32).v) (.int .u64 (kcut b 32).m) (by omega)
        rw [← hW5] at c0
        have c1 := c.2.1.put (.int .u64 (kcut b 32).v) (.int .u64 (kcut b 32).m)
        rw [← hW5] at c1
        have c2 := c.2.2.1.off (w.heap.size + 1) (.int .u64 (kcut b 32).v) (.int .u64 (kcut b 32).m) (by omega)
        rw [← hW5] at c2
        have xW5 : Ext w W5 := by rw [hW5]; exact (xW4.trans hx').store2 (by omega) _ _
        have sW5 : w.heap.size + 1 + 1 < W5.heap.size := by rw [hW5]; simpa [World.setCell] using sz
        clear hW5 p0 p1 pf q0 q1 qf r0 r1 rf sz sz0 sz1 c hx'
        have MW5 := hide (fun w' (h : Ext W5 w') => And.intro (c0.ext h) (And.intro (c1.ext h) (And.intro (c2.ext h) (Nat.lt_of_lt_of_le sW5 h.size))))
        clear c0 c1 c2 sW5
        have hx' : Ext W5 W5 := Ext.refl _
        (try clear p0 p1 pf q0 q1 qf r0 r1 rf sz sz0 sz1); obtain ⟨⟨p0, p1, pf⟩, ⟨q0, q1, qf⟩, ⟨r0, r1, rf⟩, sz⟩ := MW5.out _ hx'; have sz1 := Nat.lt_of_succ_lt sz; have sz0 := Nat.lt_of_succ_lt sz1
        have wk : (kop 6 32 (kcut a 32) (kcut b 32)).wf := HWK.out
        go_wp2_with (first
          | (go_at_call 48; (with_reducible refine (rall_any W5 _ (by assumption)).mono ?_); rintro e w' ⟨rfl, hx'⟩; (try clear p0 p1 pf q0 q1 qf r0 r1 rf sz sz0 sz1); obtain ⟨⟨p0, p1, pf⟩, ⟨q0, q1, qf⟩, ⟨r0, r1, rf⟩, sz⟩ := MW5.out _ hx'; have sz1 := Nat.lt_of_succ_lt sz; have sz0 := Nat.lt_of_succ_lt sz1)
          | (go_at_call 64; refine (rshift_yes 6 32 (kcut a 32) (kcut b 32) _ _ (Ext.refl _) HWA.out HWB.out (by decide) (by decide) (by decide) HS.out).mono ?_; rintro e w' ⟨rfl, hy⟩; have hx5 := hx'; have hx' := (hx5.alloc _).trans hy; (try clear p0 p1 pf q0 q1 qf r0 r1 rf sz sz0 sz1); obtain ⟨⟨p0, p1, pf⟩, ⟨q0, q1, qf⟩, ⟨r0, r1, rf⟩, sz⟩ := MW5.out _ hx'; have sz1 := Nat.lt_of_succ_lt sz; have sz0 := Nat.lt_of_succ_lt sz1; obtain ⟨⟨o0, o1, of⟩, so⟩ := new1 hy; have so' := Ext.size hx5; clear hy)
          | (go_at_call 45; refine (rkcut_any (kshift 6 32 (kcut a 32) (kcut b 32)) _ W5 _ (by with_reducible repeat (first | assumption | apply Ext.alloc | apply Ext.drew | (refine Ext.store1 ?_ (by omega) _))) (by rw [HK.out] at wk; exact wk)).mono ?_; rintro e w' ⟨rfl, hx'⟩; (try clear p0 p1 pf q0 q1 qf r0 r1 rf sz sz0 sz1); obtain ⟨⟨p0, p1, pf⟩, ⟨q0, q1, qf⟩, ⟨r0, r1, rf⟩, sz⟩ := MW5.out _ hx'; have sz1 := Nat.lt_of_succ_lt sz; have sz0 := Nat.lt_of_succ_lt sz1)
          | fail)
        rw [HK.out]
        exact bodyPost_ret (by simp [results, Try.results25, go_sem, r0, r1, sz, Nat.ne_of_lt sz, Nat.ne_of_gt sz] <;> (first | exact ⟨rfl, rfl⟩ | rfl)) rfl ⟨rfl, by (refine hx.trans ?_; with_reducible repeat (first | assumption | exact xW5.trans hx' | apply Ext.alloc | apply Ext.drew | (refine Ext.store1 ?_ (by omega) _)))⟩
      · have HS := hide hs
        have HK : Hid (kop 6 32 (kcut a 32) (kcut b 32) = kall) := hide (by (have hs' : ¬ bits .and .u64 (kcut b 32).m 31 = 0 := (by simpa using hs)); simp [kop, hs'])
        clear hs
        go_enter Try.func25, Try.ntmps25
        go_wp2_with fail
        rw [← hW3]
        clear hW3
        (try clear p0 p1 pf q0 q1 qf r0 r1 rf sz sz0 sz1); obtain ⟨⟨p0, p1, pf⟩, ⟨q0, q1, qf⟩, ⟨r0, r1, rf⟩, sz⟩ := MK.out _ hx'; have sz1 := Nat.lt_of_succ_lt sz; have sz0 := Nat.lt_of_succ_lt sz1
        go_wp2_with (first
          | (go_at_call 40; (with_reducible refine (rmay_any a W3 _ (by assumption)).mono ?_); rintro e w' ⟨rfl, hx'⟩; (try clear p0 p1 pf q0 q1 qf r0 r1 rf sz sz0 sz1); obtain ⟨⟨p0, p1, pf⟩, ⟨q0, q1, qf⟩, ⟨r0, r1, rf⟩, sz⟩ := MK.out _ hx'; have sz1 := Nat.lt_of_succ_lt sz; have sz0 := Nat.lt_of_succ_lt sz1)
          | (go_at_call 40; (with_reducible refine (rmay_any b W3 _ (by assumption)).mono ?_); rintro e w' ⟨rfl, hx'⟩; (try clear p0 p1 pf q0 q1 qf r0 r1 rf sz sz0 sz1); obtain ⟨⟨p0, p1, pf⟩, ⟨q0, q1, qf⟩, ⟨r0, r1, rf⟩, sz⟩ := MK.out _ hx'; have sz1 := Nat.lt_of_succ_lt sz; have sz0 := Nat.lt_of_succ_lt sz1)
          | (go_at_call 45; (with_reducible refine (rkcut_any a _ W3 _ (by assumption) ha).mono ?_); rintro e w' ⟨rfl, hx'⟩; (try clear p0 p1 pf q0 q1 qf r0 r1 rf sz sz0 sz1); obtain ⟨⟨p0, p1, pf⟩, ⟨q0, q1, qf⟩, ⟨r0, r1, rf⟩, sz⟩ := MK.out _ hx'; have sz1 := Nat.lt_of_succ_lt sz; have sz0 := Nat.lt_of_succ_lt sz1)
          | fail)
        obtain ⟨W4, hW4⟩ : ∃ W4, W4 = (w'.setCell ⟨w.heap.size, 0, none⟩ (.int .u64 (kcut a 32).v)).setCell ⟨w.heap.size, 1, none⟩ (.int .u64 (kcut a 32).m) := ⟨_, rfl⟩
        rw [← hW4]
        have c := MK.out _ hx'
        have c0 := c.1.put (.int .u64 (kcut a 32).v) (.int .u64 (kcut a 32).m)
        rw [← hW4] at c0
        have c1 := c.2.1.off (w.heap.size) (.int .u64 (kcut a 32).v) (.int .u64 (kcut a 32).m) (by omega)
        rw [← hW4] at c1
        have c2 := c.2.2.1.off (w.heap.size) (.int .u64 (kcut a 32).v) (.int .u64 (kcut a 32).m) (by omega)
        rw [← hW4] at c2
        have xW4 : Ext w W4 := by rw [hW4]; exact (x3.trans hx').store2 (by omega) _ _
        have sW4 : w.heap.size + 1 + 1 < W4.heap.size := by rw [hW4]; simpa [World.setCell] using sz
        clear hW4 p0 p1 pf q0 q1 qf r0 r1 rf sz sz0 sz1 c hx'
        have MW4 := hide (fun w' (h : Ext W4 w') => And.intro (c0.ext h) (And.intro (c1.ext h) (And.intro (c2.ext h) (Nat.lt_of_lt_of_le sW4 h.size))))
        clear c0 c1 c2 sW4
        have hx' : Ext W4 W4 := Ext.refl _
        (try clear p0 p1 pf q0 q1 qf r0 r1 rf sz sz0 sz1); obtain ⟨⟨p0, p1, pf⟩, ⟨q0, q1, qf⟩, ⟨r0, r1, rf⟩, sz⟩ := MW4.out _ hx'; have sz1 := Nat.lt_of_succ_lt sz; have sz0 := Nat.lt_of_succ_lt sz1
        go_wp2_with (first
          | (go_at_call 45; (with_reducible refine (rkcut_any b _ W4 _ (by assumption) hb).mono ?_); rintro e w' ⟨rfl, hx'⟩; (try clear p0 p1 pf q0 q1 qf r0 r1 rf sz sz0 sz1); obtain ⟨⟨p0, p1, pf⟩, ⟨q0, q1, qf⟩, ⟨r0, r1, rf⟩, sz⟩ := MW4.out _ hx'; have sz1 := Nat.lt_of_succ_lt sz; have sz0 := Nat.lt_of_succ_lt sz1)
          | fail)
        obtain ⟨W5, hW5⟩ : ∃ W5, W5 = (w'.setCell ⟨w.heap.size + 1, 0, none⟩ (.int .u64 (kcut b 32).v)).setCell ⟨w.heap.size + 1, 1, none⟩ (.int .u64 (kcut b 32).m) := ⟨_, rfl⟩
        rw [← hW5]
        have c := MW4.out _ hx'
        have c0 := c.1.off (w.heap.size + 1) (.int .u64 (kcut b 32).v) (.int .u64 (kcut b 32).m) (by omega)
        rw [← hW5] at c0
        have c1 := c.2.1.put (.int .u64 (kcut b 32).v) (.int .u64 (kcut b 32).m)
        rw [← hW5] at c1
        have c2 := c.2.2.1.off (w.heap.size + 1) (.int .u64 (kcut b 32).v) (.int .u64 (kcut b 32).m) (by omega)
        rw [← hW5] at c2
        have xW5 : Ext w W5 := by rw [hW5]; exact (xW4.trans hx').store2 (by omega) _ _
        have sW5 : w.heap.size + 1 + 1 < W5.heap.size := by rw [hW5]; simpa [World.setCell] using sz
        clear hW5 p0 p1 pf q0 q1 qf r0 r1 rf sz sz0 sz1 c hx'
        have MW5 := hide (fun w' (h : Ext W5 w') => And.intro (c0.ext h) (And.intro (c1.ext h) (And.intro (c2.ext h) (Nat.lt_of_lt_of_le sW5 h.size))))
        clear c0 c1 c2 sW5
        have hx' : Ext W5 W5 := Ext.refl _
        (try clear p0 p1 pf q0 q1 qf r0 r1 rf sz sz0 sz1); obtain ⟨⟨p0, p1, pf⟩, ⟨q0, q1, qf⟩, ⟨r0, r1, rf⟩, sz⟩ := MW5.out _ hx'; have sz1 := Nat.lt_of_succ_lt sz; have sz0 := Nat.lt_of_succ_lt sz1
        have wk : (kop 6 32 (kcut a 32) (kcut b 32)).wf := HWK.out
        go_wp2_with (first
          | (go_at_call 48; (with_reducible refine (rall_any W5 _ (by assumption)).mono ?_); rintro e w' ⟨rfl, hx'⟩; (try clear p0 p1 pf q0 q1 qf r0 r1 rf sz sz0 sz1); obtain ⟨⟨p0, p1, pf⟩, ⟨q0, q1, qf⟩, ⟨r0, r1, rf⟩, sz⟩ := MW5.out _ hx'; have sz1 := Nat.lt_of_succ_lt sz; have sz0 := Nat.lt_of_succ_lt sz1)
          | (go_at_call 64; refine (rshift_no 6 32 (kcut a 32) (kcut b 32) _ _ (Ext.refl _) HWA.out HWB.out (by decide) (by decide) (by decide) HS.out).mono ?_; rintro e w' ⟨rfl, hy⟩; have hx5 := hx'; have hx' := (hx5.alloc _).trans hy; (try clear p0 p1 pf q0 q1 qf r0 r1 rf sz sz0 sz1); obtain ⟨⟨p0, p1, pf⟩, ⟨q0, q1, qf⟩, ⟨r0, r1, rf⟩, sz⟩ := MW5.out _ hx'; have sz1 := Nat.lt_of_succ_lt sz; have sz0 := Nat.lt_of_succ_lt sz1; obtain ⟨⟨o0, o1, of⟩, so⟩ := new1 hy; have so' := Ext.size hx5; clear hy)
          | (go_at_call 45; refine (rkcut_any kall _ W5 _ (by with_reducible repeat (first | assumption | apply Ext.alloc | apply Ext.drew | (refine Ext.store1 ?_ (by omega) _))) wf_kall).mono ?_; rintro e w' ⟨rfl, hx'⟩; (try clear p0 p1 pf q0 q1 qf r0 r1 rf sz sz0 sz1); obtain ⟨⟨p0, p1, pf⟩, ⟨q0, q1, qf⟩, ⟨r0, r1, rf⟩, sz⟩ := MW5.out _ hx'; have sz1 := Nat.lt_of_succ_lt sz; have sz0 := Nat.lt_of_succ_lt sz1)
          | fail)
        rw [HK.out]
        exact bodyPost_ret (by simp [results, Try.results25, go_sem, r0, r1, sz, Nat.ne_of_lt sz, Nat.ne_of_gt sz] <;> (first | exact ⟨rfl, rfl⟩ | rfl)) rfl ⟨rfl, by (refine hx.trans ?_; with_reducible repeat (first | assumption | exact xW5.trans hx' | apply Ext.alloc | apply Ext.drew | (refine Ext.store1 ?_ (by omega) _)))⟩
  · rcases hc with m1 | ⟨m1, m2⟩
    all_goals
      rcases Bool.eq_false_or_eq_true (bits .and .u64 (kcut b 32).m (32 - 1) == 0) with hs | hs
      · have HS := hide hs
        have HK : Hid (kop 7 32 (kcut a 32) (kcut b 32) = (kshift 7 32 (kcut a 32) (kcut b 32))) := hide (by (have hs' : bits .and .u64 (kcut b 32).m 31 = 0 := (by simpa using hs)); simp [kop, hs'])
        clear hs
        go_enter Try.func25, Try.ntmps25
        go_wp2_with fail
        rw [← hW3]
        clear hW3
        (try clear p0 p1 pf q0 q1 qf r0 r1 rf sz sz0 sz1); obtain ⟨⟨p0, p1, pf⟩, ⟨q0, q1, qf⟩, ⟨r0, r1, rf⟩, sz⟩ := MK.out _ hx'; have sz1 := Nat.lt_of_succ_lt sz; have sz0 := Nat.lt_of_succ_lt sz1
        go_wp2_with (first
          | (go_at_call 40; (with_reducible refine (rmay_any a W3 _ (by assumption)).mono ?_); rintro e w' ⟨rfl, hx'⟩; (try clear p0 p1 pf q0 q1 qf r0 r1 rf sz sz0 sz1); obtain ⟨⟨p0, p1, pf⟩, ⟨q0, q1, qf⟩, ⟨r0, r1, rf⟩, sz⟩ := MK.out _ hx'; have sz1 := Nat.lt_of_succ_lt sz; have sz0 := Nat.lt_of_succ_lt sz1)
          | (go_at_call 40; (with_reducible refine (rmay_any b W3 _ (by assumption)).mono ?_); rintro e w' ⟨rfl, hx'⟩; (try clear p0 p1 pf q0 q1 qf r0 r1 rf sz sz0 sz1); obtain ⟨⟨p0, p1, pf⟩, ⟨q0, q1, qf⟩, ⟨r0, r1, rf⟩, sz⟩ := MK.out _ hx'; have sz1 := Nat.lt_of_succ_lt sz; have sz0 := Nat.lt_of_succ_lt sz1)
          | (go_at_call 45; (with_reducible refine (rkcut_any a _ W3 _ (by assumption) ha).mono ?_); rintro e w' ⟨rfl, hx'⟩; (try clear p0 p1 pf q0 q1 qf r0 r1 rf sz sz0 sz1); obtain ⟨⟨p0, p1, pf⟩, ⟨q0, q1, qf⟩, ⟨r0, r1, rf⟩, sz⟩ := MK.out _ hx'; have sz1 := Nat.lt_of_succ_lt sz; have sz0 := Nat.lt_of_succ_lt sz1)
          | fail)
        obtain ⟨W4, hW4⟩ : ∃ W4, W4 = (w'.setCell ⟨w.heap.size, 0, none⟩ (.int .u64 (kcut a 32).v)).setCell ⟨w.heap.size, 1, none⟩ (.int .u64 (kcut a 32).m) := ⟨_, rfl⟩
        rw [← hW4]
        have c := MK.out _ hx'
        have c0 := c.1.put (.int .u64 (kcut a 32).v) (.int .u64 (kcut a 32).m)
        rw [← hW4] at c0
        have c1 := c.2.1.off (w.heap.size) (.int .u64 (kcut a 32).v) (.int .u64 (kcut a 32).m) (by omega)
        rw [← hW4] at c1
        have c2 := c.2.2.1.off (w.heap.size) (.int .u64 (kcut a 32).v) (.int .u64 (kcut a 32).m) (by omega)
        rw [← hW4] at c2
        have xW4 : Ext w W4 := by rw [hW4]; exact (x3.trans hx').store2 (by omega) _ _
        have sW4 : w.heap.size + 1 + 1 < W4.heap.size := by rw [hW4]; simpa [World.setCell] using sz
        clear hW4 p0 p1 pf q0 q1 qf r0 r1 rf sz sz0 sz1 c hx'
        have MW4 := hide (fun w' (h : Ext W4 w') => And.intro (c0.ext h) (And.intro (c1.ext h) (And.intro (c2.ext h) (Nat.lt_of_lt_of_le sW4 h.size))))
        clear c0 c1 c2 sW4
        have hx' : Ext W4 W4 := Ext.refl _
        (try clear p0 p1 pf q0 q1 qf r0 r1 rf sz sz0 sz1); obtain ⟨⟨p0, p1, pf⟩, ⟨q0, q1, qf⟩, ⟨r0, r1, rf⟩, sz⟩ := MW4.out _ hx'; have sz1 := Nat.lt_of_succ_lt sz; have sz0 := Nat.lt_of_succ_lt sz1
        go_wp2_with (first
          | (go_at_call 45; (with_reducible refine (rkcut_any b _ W4 _ (by assumption) hb).mono ?_); rintro e w' ⟨rfl, hx'⟩; (try clear p0 p1 pf q0 q1 qf r0 r1 rf sz sz0 sz1); obtain ⟨⟨p0, p1, pf⟩, ⟨q0, q1, qf⟩, ⟨r0, r1, rf⟩, sz⟩ := MW4.out _ hx'; have sz1 := Nat.lt_of_succ_lt sz; have sz0 := Nat.lt_of_succ_lt sz1)
          | fail)
        obtain ⟨W5, hW5⟩ : ∃ W5, W5 = (w'.setCell ⟨w.heap.size + 1, 0, none⟩ (.int .u64 (kcut b 32).v)).setCell ⟨w.heap.size + 1, 1, none⟩ (.int .u64 (kcut b 32).m) := ⟨_, rfl⟩
        rw [← hW5]
        have c := MW4.out _ hx'
        have c0 := c.1.off (w.heap.size + 1) (.int .u64 (kcut b 32).v) (.int .u64 (kcut b 32).m) (by omega)
        rw [← hW5] at c0
        have c1 := c.2.1.put (.int .u64 (kcut b 32).v) (.int .u64 (kcut b 32).m)
        rw [← hW5] at c1
        have c2 := c.2.2.1.off (w.heap.size + 1) (.int .u64 (kcut b 32).v) (.int .u64 (kcut b 32).m) (by omega)
        rw [← hW5] at c2
        have xW5 : Ext w W5 := by rw [hW5]; exact (xW4.trans hx').store2 (by omega) _ _
        have sW5 : w.heap.size + 1 + 1 < W5.heap.size := by rw [hW5]; simpa [World.setCell] using sz
        clear hW5 p0 p1 pf q0 q1 qf r0 r1 rf sz sz0 sz1 c hx'
        have MW5 := hide (fun w' (h : Ext W5 w') => And.intro (c0.ext h) (And.intro (c1.ext h) (And.intro (c2.ext h) (Nat.lt_of_lt_of_le sW5 h.size))))
        clear c0 c1 c2 sW5
        have hx' : Ext W5 W5 := Ext.refl _
        (try clear p0 p1 pf q0 q1 qf r0 r1 rf sz sz0 sz1); obtain ⟨⟨p0, p1, pf⟩, ⟨q0, q1, qf⟩, ⟨r0, r1, rf⟩, sz⟩ := MW5.out _ hx'; have sz1 := Nat.lt_of_succ_lt sz; have sz0 := Nat.lt_of_succ_lt sz1
        have wk : (kop 7 32 (kcut a 32) (kcut b 32)).wf := HWK.out
        go_wp2_with (first
          | (go_at_call 48; (with_reducible refine (rall_any W5 _ (by assumption)).mono ?_); rintro e w' ⟨rfl, hx'⟩; (try clear p0 p1 pf q0 q1 qf r0 r1 rf sz sz0 sz1); obtain ⟨⟨p0, p1, pf⟩, ⟨q0, q1, qf⟩, ⟨r0, r1, rf⟩, sz⟩ := MW5.out _ hx'; have sz1 := Nat.lt_of_succ_lt sz; have sz0 := Nat.lt_of_succ_lt sz1)
          | (go_at_call 64; refine (rshift_yes 7 32 (kcut a 32) (kcut b 32) _ _ (Ext.refl _) HWA.out HWB.out (by decide) (by decide) (by decide) HS.out).mono ?_; rintro e w' ⟨rfl, hy⟩; have hx5 := hx'; have hx' := (hx5.alloc _).trans hy; (try clear p0 p1 pf q0 q1 qf r0 r1 rf sz sz0 sz1); obtain ⟨⟨p0, p1, pf⟩, ⟨q0, q1, qf⟩, ⟨r0, r1, rf⟩, sz⟩ := MW5.out _ hx'; have sz1 := Nat.lt_of_succ_lt sz; have sz0 := Nat.lt_of_succ_lt sz1; obtain ⟨⟨o0, o1, of⟩, so⟩ := new1 hy; have so' := Ext.size hx5; clear hy)
          | (go_at_call 45; refine (rkcut_any (kshift 7 32 (kcut a 32) (kcut b 32)) _ W5 _ (by with_reducible repeat (first | assumption | apply Ext.alloc | apply Ext.drew | (refine Ext.store1 ?_ (by omega) _))) (by rw [HK.out] at wk; exact wk)).mono ?_; rintro e w' ⟨rfl, hx'⟩; (try clear p0 p1 pf q0 q1 qf r0 r1 rf sz sz0 sz1); obtain ⟨⟨p0, p1, pf⟩, ⟨q0, q1, qf⟩, ⟨r0, r1, rf⟩, sz⟩ := MW5.out _ hx'; have sz1 := Nat.lt_of_succ_lt sz; have sz0 := Nat.lt_of_succ_lt sz1)
          | fail)
        rw [HK.out]
        exact bodyPost_ret (by simp [results, Try.results25, go_sem, r0, r1, sz, Nat.ne_of_lt sz, Nat.ne_of_gt sz] <;> (first | exact ⟨rfl, rfl⟩ | rfl)) rfl ⟨rfl, by (refine hx.trans ?_; with_reducible repeat (first | assumption | exact xW5.trans hx' | apply Ext.alloc | apply Ext.drew | (refine Ext.store1 ?_ (by omega) _)))⟩
      · have HS := hide hs
        have HK : Hid (kop 7 32 (kcut a 32) (kcut b 32) = kall) := hide (by (have hs' : ¬ bits .and .u64 (kcut b 32).m 31 = 0 := (by simpa using hs)); simp [kop, hs'])
        clear hs
        go_enter Try.func25, Try.ntmps25
        go_wp2_with fail
        rw [← hW3]
        clear hW3
        (try clear p0 p1 pf q0 q1 qf r0 r1 rf sz sz0 sz1); obtain ⟨⟨p0, p1, pf⟩, ⟨q0, q1, qf⟩, ⟨r0, r1, rf⟩, sz⟩ := MK.out _ hx'; have sz1 := Nat.lt_of_succ_lt sz; have sz0 := Nat.lt_of_succ_lt sz1
        go_wp2_with (first
          | (go_at_call 40; (with_reducible refine (rmay_any a W3 _ (by assumption)).mono ?_); rintro e w' ⟨rfl, hx'⟩; (try clear p0 p1 pf q0 q1 qf r0 r1 rf sz sz0 sz1); obtain ⟨⟨p0, p1, pf⟩, ⟨q0, q1, qf⟩, ⟨r0, r1, rf⟩, sz⟩ := MK.out _ hx'; have sz1 := Nat.lt_of_succ_lt sz; have sz0 := Nat.lt_of_succ_lt sz1)
          | (go_at_call 40; (with_reducible refine (rmay_any b W3 _ (by assumption)).mono ?_); rintro e w' ⟨rfl, hx'⟩; (try clear p0 p1 pf q0 q1 qf r0 r1 rf sz sz0 sz1); obtain ⟨⟨p0, p1, pf⟩, ⟨q0, q1, qf⟩, ⟨r0, r1, rf⟩, sz⟩ := MK.out _ hx'; have sz1 := Nat.lt_of_succ_lt sz; have sz0 := Nat.lt_of_succ_lt sz1)
          | (go_at_call 45; (with_reducible refine (rkcut_any a _ W3 _ (by assumption) ha).mono ?_); rintro e w' ⟨rfl, hx'⟩; (try clear p0 p1 pf q0 q1 qf r0 r1 rf sz sz0 sz1); obtain ⟨⟨p0, p1, pf⟩, ⟨q0, q1, qf⟩, ⟨r0, r1, rf⟩, sz⟩ := MK.out _ hx'; have sz1 := Nat.lt_of_succ_lt sz; have sz0 := Nat.lt_of_succ_lt sz1)
          | fail)
        obtain ⟨W4, hW4⟩ : ∃ W4, W4 = (w'.setCell ⟨w.heap.size, 0, none⟩ (.int .u64 (kcut a 32).v)).setCell ⟨w.heap.size, 1, none⟩ (.int .u64 (kcut a 32).m) := ⟨_, rfl⟩
        rw [← hW4]
        have c := MK.out _ hx'
        have c0 := c.1.put (.int .u64 (kcut a 32).v) (.int .u64 (kcut a 32).m)
        rw [← hW4] at c0
        have c1 := c.2.1.off (w.heap.size) (.int .u64 (kcut a 32).v) (.int .u64 (kcut a 32).m) (by omega)
        rw [← hW4] at c1
        have c2 := c.2.2.1.off (w.heap.size) (.int .u64 (kcut a 32).v) (.int .u64 (kcut a 32).m) (by omega)
        rw [← hW4] at c2
        have xW4 : Ext w W4 := by rw [hW4]; exact (x3.trans hx').store2 (by omega) _ _
        have sW4 : w.heap.size + 1 + 1 < W4.heap.size := by rw [hW4]; simpa [World.setCell] using sz
        clear hW4 p0 p1 pf q0 q1 qf r0 r1 rf sz sz0 sz1 c hx'
        have MW4 := hide (fun w' (h : Ext W4 w') => And.intro (c0.ext h) (And.intro (c1.ext h) (And.intro (c2.ext h) (Nat.lt_of_lt_of_le sW4 h.size))))
        clear c0 c1 c2 sW4
        have hx' : Ext W4 W4 := Ext.refl _
        (try clear p0 p1 pf q0 q1 qf r0 r1 rf sz sz0 sz1); obtain ⟨⟨p0, p1, pf⟩, ⟨q0, q1, qf⟩, ⟨r0, r1, rf⟩, sz⟩ := MW4.out _ hx'; have sz1 := Nat.lt_of_succ_lt sz; have sz0 := Nat.lt_of_succ_lt sz1
        go_wp2_with (first
          | (go_at_call 45; (with_reducible refine (rkcut_any b _ W4 _ (by assumption) hb).mono ?_); rintro e w' ⟨rfl, hx'⟩; (try clear p0 p1 pf q0 q1 qf r0 r1 rf sz sz0 sz1); obtain ⟨⟨p0, p1, pf⟩, ⟨q0, q1, qf⟩, ⟨r0, r1, rf⟩, sz⟩ := MW4.out _ hx'; have sz1 := Nat.lt_of_succ_lt sz; have sz0 := Nat.lt_of_succ_lt sz1)
          | fail)
        obtain ⟨W5, hW5⟩ : ∃ W5, W5 = (w'.setCell ⟨w.heap.size + 1, 0, none⟩ (.int .u64 (kcut b 32).v)).setCell ⟨w.heap.size + 1, 1, none⟩ (.int .u64 (kcut b 32).m) := ⟨_, rfl⟩
        rw [← hW5]
        have c := MW4.out _ hx'
        have c0 := c.1.off (w.heap.size + 1) (.int .u64 (kcut b 32).v) (.int .u64 (kcut b 32).m) (by omega)
        rw [← hW5] at c0
        have c1 := c.2.1.put (.int .u64 (kcut b 32).v) (.int .u64 (kcut b 32).m)
        rw [← hW5] at c1
        have c2 := c.2.2.1.off (w.heap.size + 1) (.int .u64 (kcut b 32).v) (.int .u64 (kcut b 32).m) (by omega)
        rw [← hW5] at c2
        have xW5 : Ext w W5 := by rw [hW5]; exact (xW4.trans hx').store2 (by omega) _ _
        have sW5 : w.heap.size + 1 + 1 < W5.heap.size := by rw [hW5]; simpa [World.setCell] using sz
        clear hW5 p0 p1 pf q0 q1 qf r0 r1 rf sz sz0 sz1 c hx'
        have MW5 := hide (fun w' (h : Ext W5 w') => And.intro (c0.ext h) (And.intro (c1.ext h) (And.intro (c2.ext h) (Nat.lt_of_lt_of_le sW5 h.size))))
        clear c0 c1 c2 sW5
        have hx' : Ext W5 W5 := Ext.refl _
        (try clear p0 p1 pf q0 q1 qf r0 r1 rf sz sz0 sz1); obtain ⟨⟨p0, p1, pf⟩, ⟨q0, q1, qf⟩, ⟨r0, r1, rf⟩, sz⟩ := MW5.out _ hx'; have sz1 := Nat.lt_of_succ_lt sz; have sz0 := Nat.lt_of_succ_lt sz1
        have wk : (kop 7 32 (kcut a 32) (kcut b 32)).wf := HWK.out
        go_wp2_with (first
          | (go_at_call 48; (with_reducible refine (rall_any W5 _ (by assumption)).mono ?_); rintro e w' ⟨rfl, hx'⟩; (try clear p0 p1 pf q0 q1 qf r0 r1 rf sz sz0 sz1); obtain ⟨⟨p0, p1, pf⟩, ⟨q0, q1, qf⟩, ⟨r0, r1, rf⟩, sz⟩ := MW5.out _ hx'; have sz1 := Nat.lt_of_succ_lt sz; have sz0 := Nat.lt_of_succ_lt sz1)
          | (go_at_call 64; refine (rshift_no 7 32 (kcut a 32) (kcut b 32) _ _ (Ext.refl _) HWA.out HWB.out (by decide) (by decide) (by decide) HS.out).mono ?_; rintro e w' ⟨rfl, hy⟩; have hx5 := hx'; have hx' := (hx5.alloc _).trans hy; (try clear p0 p1 pf q0 q1 qf r0 r1 rf sz sz0 sz1); obtain ⟨⟨p0, p1, pf⟩, ⟨q0, q1, qf⟩, ⟨r0, r1, rf⟩, sz⟩ := MW5.out _ hx'; have sz1 := Nat.lt_of_succ_lt sz; have sz0 := Nat.lt_of_succ_lt sz1; obtain ⟨⟨o0, o1, of⟩, so⟩ := new1 hy; have so' := Ext.size hx5; clear hy)
          | (go_at_call 45; refine (rkcut_any kall _ W5 _ (by with_reducible repeat (first | assumption | apply Ext.alloc | apply Ext.drew | (refine Ext.store1 ?_ (by omega) _))) wf_kall).mono ?_; rintro e w' ⟨rfl, hx'⟩; (try clear p0 p1 pf q0 q1 qf r0 r1 rf sz sz0 sz1); obtain ⟨⟨p0, p1, pf⟩, ⟨q0, q1, qf⟩, ⟨r0, r1, rf⟩, sz⟩ := MW5.out _ hx'; have sz1 := Nat.lt_of_succ_lt sz; have sz0 := Nat.lt_of_succ_lt sz1)
          | fail)
        rw [HK.out]
        exact bodyPost_ret (by simp [results, Try.results25, go_sem, r0, r1, sz, Nat.ne_of_lt sz, Nat.ne_of_gt sz] <;> (first | exact ⟨rfl, rfl⟩ | rfl)) rfl ⟨rfl, by (refine hx.trans ?_; with_reducible repeat (first | assumption | exact xW5.trans hx' | apply Ext.alloc | apply Ext.drew | (refine Ext.store1 ?_ (by omega) _)))⟩
  · rcases hc with m1 | ⟨m1, m2⟩
    all_goals
      go_enter Try.func25, Try.ntmps25
      go_wp2_with fail
      rw [← hW3]
      clear hW3
      (try clear p0 p1 pf q0 q1 qf r0 r1 rf sz sz0 sz1); obtain ⟨⟨p0, p1, pf⟩, ⟨q0, q1, qf⟩, ⟨r0, r1, rf⟩, sz⟩ := MK.out _ hx'; have sz1 := Nat.lt_of_succ_lt sz; have sz0 := Nat.lt_of_succ_lt sz1
      go_wp2_with (first
        | (go_at_call 40; (with_reducible refine (rmay_any a W3 _ (by assumption)).mono ?_); rintro e w' ⟨rfl, hx'⟩; (try clear p0 p1 pf q0 q1 qf r0 r1 rf sz sz0 sz1); obtain ⟨⟨p0, p1, pf⟩, ⟨q0, q1, qf⟩, ⟨r0, r1, rf⟩, sz⟩ := MK.out _ hx'; have sz1 := Nat.lt_of_succ_lt sz; have sz0 := Nat.lt_of_succ_lt sz1)
        | (go_at_call 40; (with_reducible refine (rmay_any b W3 _ (by assumption)).mono ?_); rintro e w' ⟨rfl, hx'⟩; (try clear p0 p1 pf q0 q1 qf r0 r1 rf sz sz0 sz1); obtain ⟨⟨p0, p1, pf⟩, ⟨q0, q1, qf⟩, ⟨r0, r1, rf⟩, sz⟩ := MK.out _ hx'; have sz1 := Nat.lt_of_succ_lt sz; have sz0 := Nat.lt_of_succ_lt sz1)
        | (go_at_call 45; (with_reducible refine (rkcut_any a _ W3 _ (by assumption) ha).mono ?_); rintro e w' ⟨rfl, hx'⟩; (try clear p0 p1 pf q0 q1 qf r0 r1 rf sz sz0 sz1); obtain ⟨⟨p0, p1, pf⟩, ⟨q0, q1, qf⟩, ⟨r0, r1, rf⟩, sz⟩ := MK.out _ hx'; have sz1 := Nat.lt_of_succ_lt sz; have sz0 := Nat.lt_of_succ_lt sz1)
        | fail)
      obtain ⟨W4, hW4⟩ : ∃ W4, W4 = (w'.setCell ⟨w.heap.size, 0, none⟩ (.int .u64 (kcut a 32).v)).setCell ⟨w.heap.size, 1, none⟩ (.int .u64 (kcut a 32).m) := ⟨_, rfl⟩
      rw [← hW4]
      have c := MK.out _ hx'
      have c0 := c.1.put (.int .u64 (kcut a 32).v) (.int .u64 (kcut a 32).m)
      rw [← hW4] at c0
      have c1 := c.2.1.off (w.heap.size) (.int .u64 (kcut a 32).v) (.int .u64 (kcut a 32).m) (by omega)
      rw [← hW4] at c1
      have c2 := c.2.2.1.off (w.heap.size) (.int .u64 (kcut a 32).v) (.int .u64 (kcut a 32).m) (by omega)
      rw [← hW4] at c2
      have xW4 : Ext w W4 := by rw [hW4]; exact (x3.trans hx').store2 (by omega) _ _
      have sW4 : w.heap.size + 1 + 1 < W4.heap.size := by rw [hW4]; simpa [World.setCell] using sz
      clear hW4 p0 p1 pf q0 q1 qf r0 r1 rf sz sz0 sz1 c hx'
      have MW4 := hide (fun w' (h : Ext W4 w') => And.intro (c0.ext h) (And.intro (c1.ext h) (And.intro (c2.ext h) (Nat.lt_of_lt_of_le sW4 h.size))))
      clear c0 c1 c2 sW4
      have hx' : Ext W4 W4 := Ext.refl _
      (try clear p0 p1 pf q0 q1 qf r0 r1 rf sz sz0 sz1); obtain ⟨⟨p0, p1, pf⟩, ⟨q0, q1, qf⟩, ⟨r0, r1, rf⟩, sz⟩ := MW4.out _ hx'; have sz1 := Nat.lt_of_succ_lt sz; have sz0 := Nat.lt_of_succ_lt sz1
      go_wp2_with (first
        | (go_at_call 45; (with_reducible refine (rkcut_any b _ W4 _ (by assumption) hb).mono ?_); rintro e w' ⟨rfl, hx'⟩; (try clear p0 p1 pf q0 q1 qf r0 r1 rf sz sz0 sz1); obtain ⟨⟨p0, p1, pf⟩, ⟨q0, q1, qf⟩, ⟨r0, r1, rf⟩, sz⟩ := MW4.out _ hx'; have sz1 := Nat.lt_of_succ_lt sz; have sz0 := Nat.lt_of_succ_lt sz1)
        | fail)
      obtain ⟨W5, hW5⟩ : ∃ W5, W5 = (w'.setCell ⟨w.heap.size + 1, 0, none⟩ (.int .u64 (kcut b 32).v)).setCell ⟨w.heap.size + 1, 1, none⟩ (.int .u64 (kcut b 32).m) := ⟨_, rfl⟩
      rw [← hW5]
      have c := MW4.out _ hx'
      have c0 := c.1.off (w.heap.size + 1) (.int .u64 (kcut b 32).v) (.int .u64 (kcut b 32).m) (by omega)
      rw [← hW5] at c0
      have c1 := c.2.1.put (.int .u64 (kcut b 32).v) (.int .u64 (kcut b 32).m)
      rw [← hW5] at c1
      have c2 := c.2.2.1.off (w.heap.size + 1) (.int .u64 (kcut b 32).v) (.int .u64 (kcut b 32).m) (by omega)
      rw [← hW5] at c2
      have xW5 : Ext w W5 := by rw [hW5]; exact (xW4.trans hx').store2 (by omega) _ _
      have sW5 : w.heap.size + 1 + 1 < W5.heap.size := by rw [hW5]; simpa [World.setCell] using sz
      clear hW5 p0 p1 pf q0 q1 qf r0 r1 rf sz sz0 sz1 c hx'
      have MW5 := hide (fun w' (h : Ext W5 w') => And.intro (c0.ext h) (And.intro (c1.ext h) (And.intro (c2.ext h) (Nat.lt_of_lt_of_le sW5 h.size))))
      clear c0 c1 c2 sW5
      have hx' : Ext W5 W5 := Ext.refl _
      (try clear p0 p1 pf q0 q1 qf r0 r1 rf sz sz0 sz1); obtain ⟨⟨p0, p1, pf⟩, ⟨q0, q1, qf⟩, ⟨r0, r1, rf⟩, sz⟩ := MW5.out _ hx'; have sz1 := Nat.lt_of_succ_lt sz; have sz0 := Nat.lt_of_succ_lt sz1
      have wk : (kop 8 32 (kcut a 32) (kcut b 32)).wf := HWK.out
      go_wp2_with (first
        | (go_at_call 48; (with_reducible refine (rall_any W5 _ (by assumption)).mono ?_); rintro e w' ⟨rfl, hx'⟩; (try clear p0 p1 pf q0 q1 qf r0 r1 rf sz sz0 sz1); obtain ⟨⟨p0, p1, pf⟩, ⟨q0, q1, qf⟩, ⟨r0, r1, rf⟩, sz⟩ := MW5.out _ hx'; have sz1 := Nat.lt_of_succ_lt sz; have sz0 := Nat.lt_of_succ_lt sz1)
        | fail)
      go_region_with (first
        | (go_at_call 47; (with_reducible refine (rone_any _ _ _ (Ext.refl _)).mono ?_); rintro e w6 ⟨rfl, hy⟩; have hx5 := hx'; have hx' := ((hx5.alloc _).drew).trans hy; (try clear p0 p1 pf q0 q1 qf r0 r1 rf sz sz0 sz1); obtain ⟨⟨p0, p1, pf⟩, ⟨q0, q1, qf⟩, ⟨r0, r1, rf⟩, sz⟩ := MW5.out _ hx'; have sz1 := Nat.lt_of_succ_lt sz; have sz0 := Nat.lt_of_succ_lt sz1; have no := new1 (((Ext.refl _).drew).trans hy); have so' := Ext.size hx5; have NO := hide no.1; obtain ⟨⟨o0, o1, of⟩, so⟩ := no; clear hy)
        | (go_at_call 63; (with_reducible refine (rsub_any (kone 0) (kcut a 32) _ _ (Ext.refl _)).mono ?_); rintro e w7 ⟨rfl, hy⟩; have hx6 := hx'; have hx' := hx6.trans hy; (try clear p0 p1 pf q0 q1 qf r0 r1 rf sz sz0 sz1); obtain ⟨⟨p0, p1, pf⟩, ⟨q0, q1, qf⟩, ⟨r0, r1, rf⟩, sz⟩ := MW5.out _ hx'; have sz1 := Nat.lt_of_succ_lt sz; have sz0 := Nat.lt_of_succ_lt sz1; have no := NO.out.ext hy; have so2 := no.lt; clear o0 o1 of; obtain ⟨o0, o1, of⟩ := no; clear hy))
      all_goals
        go_wp2_with (first
          | (go_at_call 45; refine (rkcut_any (ksub (kone 0) (kcut a 32)) _ W5 _ (by with_reducible repeat (first | assumption | apply Ext.alloc | apply Ext.drew | (refine Ext.store1 ?_ (by omega) _))) wk).mono ?_; rintro e w' ⟨rfl, hx'⟩; (try clear p0 p1 pf q0 q1 qf r0 r1 rf sz sz0 sz1); obtain ⟨⟨p0, p1, pf⟩, ⟨q0, q1, qf⟩, ⟨r0, r1, rf⟩, sz⟩ := MW5.out _ hx'; have sz1 := Nat.lt_of_succ_lt sz; have sz0 := Nat.lt_of_succ_lt sz1)
          | fail)
        exact bodyPost_ret (by simp [results, Try.results25, go_sem, r0, r1, sz, Nat.ne_of_lt sz, Nat.ne_of_gt sz] <;> (first | exact ⟨rfl, rfl⟩ | rfl)) rfl ⟨rfl, by (refine hx.trans ?_; with_reducible repeat (first | assumption | exact xW5.trans hx' | apply Ext.alloc | apply Ext.drew | (refine Ext.store1 ?_ (by omega) _)))⟩
  · rcases hc with m1 | ⟨m1, m2⟩
    all_goals
      go_enter Try.func25, Try.ntmps25
      go_wp2_with fail
      rw [← hW3]
      clear hW3
      (try clear p0 p1 pf q0 q1 qf r0 r1 rf sz sz0 sz1); obtain ⟨⟨p0, p1, pf⟩, ⟨q0, q1, qf⟩, ⟨r0, r1, rf⟩, sz⟩ := MK.out _ hx'; have sz1 := Nat.lt_of_succ_lt sz; have sz0 := Nat.lt_of_succ_lt sz1
      go_wp2_with (first
        | (go_at_call 40; (with_reducible refine (rmay_any a W3 _ (by assumption)).mono ?_); rintro e w' ⟨rfl, hx'⟩; (try clear p0 p1 pf q0 q1 qf r0 r1 rf sz sz0 sz1); obtain ⟨⟨p0, p1, pf⟩, ⟨q0, q1, qf⟩, ⟨r0, r1, rf⟩, sz⟩ := MK.out _ hx'; have sz1 := Nat.lt_of_succ_lt sz; have sz0 := Nat.lt_of_succ_lt sz1)
        | (go_at_call 40; (with_reducible refine (rmay_any b W3 _ (by assumption)).mono ?_); rintro e w' ⟨rfl, hx'⟩; (try clear p0 p1 pf q0 q1 qf r0 r1 rf sz sz0 sz1); obtain ⟨⟨p0, p1, pf⟩, ⟨q0, q1, qf⟩, ⟨r0, r1, rf⟩, sz⟩ := MK.out _ hx'; have sz1 := Nat.lt_of_succ_lt sz; have sz0 := Nat.lt_of_succ_lt sz1)
        | (go_at_call 45; (with_reducible refine (rkcut_any a _ W3 _ (by assumption) ha).mono ?_); rintro e w' ⟨rfl, hx'⟩; (try clear p0 p1 pf q0 q1 qf r0 r1 rf sz sz0 sz1); obtain ⟨⟨p0, p1, pf⟩, ⟨q0, q1, qf⟩, ⟨r0, r1, rf⟩, sz⟩ := MK.out _ hx'; have sz1 := Nat.lt_of_succ_lt sz; have sz0 := Nat.lt_of_succ_lt sz1)
        | fail)
      obtain ⟨W4, hW4⟩ : ∃ W4, W4 = (w'.setCell ⟨w.heap.size, 0, none⟩ (.int .u64 (kcut a 32).v)).setCell ⟨w.heap.size, 1, none⟩ (.int .u64 (kcut a 32).m) := ⟨_, rfl⟩
      rw [← hW4]
      have c := MK.out _ hx'
      have c0 := c.1.put (.int .u64 (kcut a 32).v) (.int .u64 (kcut a 32).m)
      rw [← hW4] at c0
      have c1 := c.2.1.off (w.heap.size) (.int .u64 (kcut a 32).v) (.int .u64 (kcut a 32).m) (by omega)
      rw [← hW4] at c1
      have c2 := c.2.2.1.off (w.heap.size) (.int .u64 (kcut a 32).v) (.int .u64 (kcut a 32).m) (by omega)
      rw [← hW4] at c2
      have xW4 : Ext w W4 := by rw [hW4]; exact (x3.trans hx').store2 (by omega) _ _
      have sW4 : w.heap.size + 1 + 1 < W4.heap.size := by rw [hW4]; simpa [World.setCell] using sz
      clear hW4 p0 p1 pf q0 q1 qf r0 r1 rf sz sz0 sz1 c hx'
      have MW4 := hide (fun w' (h : Ext W4 w') => And.intro (c0.ext h) (And.intro (c1.ext h) (And.intro (c2.ext h) (Nat.lt_of_lt_of_le sW4 h.size))))
      clear c0 c1 c2 sW4
      have hx' : Ext W4 W4 := Ext.refl _
      (try clear p0 p1 pf q0 q1 qf r0 r1 rf sz sz0 sz1); obtain ⟨⟨p0, p1, pf⟩, ⟨q0, q1, qf⟩, ⟨r0, r1, rf⟩, sz⟩ := MW4.out _ hx'; have sz1 := Nat.lt_of_succ_lt sz; have sz0 := Nat.lt_of_succ_lt sz1
      go_wp2_with (first
        | (go_at_call 45; (with_reducible refine (rkcut_any b _ W4 _ (by assumption) hb).mono ?_); rintro e w' ⟨rfl, hx'⟩; (try clear p0 p1 pf q0 q1 qf r0 r1 rf sz sz0 sz1); obtain ⟨⟨p0, p1, pf⟩, ⟨q0, q1, qf⟩, ⟨r0, r1, rf⟩, sz⟩ := MW4.out _ hx'; have sz1 := Nat.lt_of_succ_lt sz; have sz0 := Nat.lt_of_succ_lt sz1)
        | fail)
      obtain ⟨W5, hW5⟩ : ∃ W5, W5 = (w'.setCell ⟨w.heap.size + 1, 0, none⟩ (.int .u64 (kcut b 32).v)).setCell ⟨w.heap.size + 1, 1, none⟩ (.int .u64 (kcut b 32).m) := ⟨_, rfl⟩
      rw [← hW5]
      have c := MW4.out _ hx'
      have c0 := c.1.off (w.heap.size + 1) (.int .u64 (kcut b 32).v) (.int .u64 (kcut b 32).m) (by omega)
      rw [← hW5] at c0
      have c1 := c.2.1.put (.int .u64 (kcut b 32).v) (.int .u64 (kcut b 32).m)
      rw [← hW5] at c1
      have c2 := c.2.2.1.off (w.heap.size + 1) (.int .u64 (kcut b 32).v) (.int .u64 (kcut b 32).m) (by omega)
      rw [← hW5] at c2
      have xW5 : Ext w W5 := by rw [hW5]; exact (xW4.trans hx').store2 (by omega) _ _
      have sW5 : w.heap.size + 1 + 1 < W5.heap.size := by rw [hW5]; simpa [World.setCell] using sz
      clear hW5 p0 p1 pf q0 q1 qf r0 r1 rf sz sz0 sz1 c hx'
      have MW5 := hide (fun w' (h : Ext W5 w') => And.intro (c0.ext h) (And.intro (c1.ext h) (And.intro (c2.ext h) (Nat.lt_of_lt_of_le sW5 h.size))))
      clear c0 c1 c2 sW5
      have hx' : Ext W5 W5 := Ext.refl _
      (try clear p0 p1 pf q0 q1 qf r0 r1 rf sz sz0 sz1); obtain ⟨⟨p0, p1, pf⟩, ⟨q0, q1, qf⟩, ⟨r0, r1, rf⟩, sz⟩ := MW5.out _ hx'; have sz1 := Nat.lt_of_succ_lt sz; have sz0 := Nat.lt_of_succ_lt sz1
      have wk : (kop 9 32 (kcut a 32) (kcut b 32)).wf := HWK.out
      go_wp2_with (first
        | (go_at_call 48; (with_reducible refine (rall_any W5 _ (by assumption)).mono ?_); rintro e w' ⟨rfl, hx'⟩; (try clear p0 p1 pf q0 q1 qf r0 r1 rf sz sz0 sz1); obtain ⟨⟨p0, p1, pf⟩, ⟨q0, q1, qf⟩, ⟨r0, r1, rf⟩, sz⟩ := MW5.out _ hx'; have sz1 := Nat.lt_of_succ_lt sz; have sz0 := Nat.lt_of_succ_lt sz1)
        | (go_at_call 45; refine (rkcut_any kall _ W5 _ (by with_reducible repeat (first | assumption | apply Ext.alloc | apply Ext.drew | (refine Ext.store1 ?_ (by omega) _))) wf_kall).mono ?_; rintro e w' ⟨rfl, hx'⟩; (try clear p0 p1 pf q0 q1 qf r0 r1 rf sz sz0 sz1); obtain ⟨⟨p0, p1, pf⟩, ⟨q0, q1, qf⟩, ⟨r0, r1, rf⟩, sz⟩ := MW5.out _ hx'; have sz1 := Nat.lt_of_succ_lt sz; have sz0 := Nat.lt_of_succ_lt sz1)
        | fail)
      exact bodyPost_ret (by simp [results, Try.results25, go_sem, r0, r1, sz, Nat.ne_of_lt sz, Nat.ne_of_gt sz] <;> (first | exact ⟨rfl, rfl⟩ | rfl)) rfl ⟨rfl, by (refine hx.trans ?_; with_reducible repeat (first | assumption | exact xW5.trans hx' | apply Ext.alloc | apply Ext.drew | (refine Ext.store1 ?_ (by omega) _)))⟩
  · rcases hc with m1 | ⟨m1, m2⟩
    all_goals
      go_enter Try.func25, Try.ntmps25
      go_wp2_with fail
      rw [← hW3]
      clear hW3
      (try clear p0 p1 pf q0 q1 qf r0 r1 rf sz sz0 sz1); obtain ⟨⟨p0, p1, pf⟩, ⟨q0, q1, qf⟩, ⟨r0, r1, rf⟩, sz⟩ := MK.out _ hx'; have sz1 := Nat.lt_of_succ_lt sz; have sz0 := Nat.lt_of_succ_lt sz1
      go_wp2_with (first
        | (go_at_call 40; (with_reducible refine (rmay_any a W3 _ (by assumption)).mono ?_); rintro e w' ⟨rfl, hx'⟩; (try clear p0 p1 pf q0 q1 qf r0 r1 rf sz sz0 sz1); obtain ⟨⟨p0, p1, pf⟩, ⟨q0, q1, qf⟩, ⟨r0, r1, rf⟩, sz⟩ := MK.out _ hx'; have sz1 := Nat.lt_of_succ_lt sz; have sz0 := Nat.lt_of_succ_lt sz1)
        | (go_at_call 40; (with_reducible refine (rmay_any b W3 _ (by assumption)).mono ?_); rintro e w' ⟨rfl, hx'⟩; (try clear p0 p1 pf q0 q1 qf r0 r1 rf sz sz0 sz1); obtain ⟨⟨p0, p1, pf⟩, ⟨q0, q1, qf⟩, ⟨r0, r1, rf⟩, sz⟩ := MK.out _ hx'; have sz1 := Nat.lt_of_succ_lt sz; have sz0 := Nat.lt_of_succ_lt sz1)
        | (go_at_call 45; (with_reducible refine (rkcut_any a _ W3 _ (by assumption) ha).mono ?_); rintro e w' ⟨rfl, hx'⟩; (try clear p0 p1 pf q0 q1 qf r0 r1 rf sz sz0 sz1); obtain ⟨⟨p0, p1, pf⟩, ⟨q0, q1, qf⟩, ⟨r0, r1, rf⟩, sz⟩ := MK.out _ hx'; have sz1 := Nat.lt_of_succ_lt sz; have sz0 := Nat.lt_of_succ_lt sz1)
        | fail)
      obtain ⟨W4, hW4⟩ : ∃ W4, W4 = (w'.setCell ⟨w.heap.size, 0, none⟩ (.int .u64 (kcut a 32).v)).setCell ⟨w.heap.size, 1, none⟩ (.int .u64 (kcut a 32).m) := ⟨_, rfl⟩
      rw [← hW4]
      have c := MK.out _ hx'
      have c0 := c.1.put (.int .u64 (kcut a 32).v) (.int .u64 (kcut a 32).m)
      rw [← hW4] at c0
      have c1 := c.2.1.off (w.heap.size) (.int .u64 (kcut a 32).v) (.int .u64 (kcut a 32).m) (by omega)
      rw [← hW4] at c1
      have c2 := c.2.2.1.off (w.heap.size) (.int .u64 (kcut a 32).v) (.int .u64 (kcut a 32).m) (by omega)
      rw [← hW4] at c2
      have xW4 : Ext w W4 := by rw [hW4]; exact (x3.trans hx').store2 (by omega) _ _
      have sW4 : w.heap.size + 1 + 1 < W4.heap.size := by rw [hW4]; simpa [World.setCell] using sz
      clear hW4 p0 p1 pf q0 q1 qf r0 r1 rf sz sz0 sz1 c hx'
      have MW4 := hide (fun w' (h : Ext W4 w') => And.intro (c0.ext h) (And.intro (c1.ext h) (And.intro (c2.ext h) (Nat.lt_of_lt_of_le sW4 h.size))))
      clear c0 c1 c2 sW4
      have hx' : Ext W4 W4 := Ext.refl _
      (try clear p0 p1 pf q0 q1 qf r0 r1 rf sz sz0 sz1); obtain ⟨⟨p0, p1, pf⟩, ⟨q0, q1, qf⟩, ⟨r0, r1, rf⟩, sz⟩ := MW4.out _ hx'; have sz1 := Nat.lt_of_succ_lt sz; have sz0 := Nat.lt_of_succ_lt sz1
      go_wp2_with (first
        | (go_at_call 45; (with_reducible refine (rkcut_any b _ W4 _ (by assumption) hb).mono ?_); rintro e w' ⟨rfl, hx'⟩; (try clear p0 p1 pf q0 q1 qf r0 r1 rf sz sz0 sz1); obtain ⟨⟨p0, p1, pf⟩, ⟨q0, q1, qf⟩, ⟨r0, r1, rf⟩, sz⟩ := MW4.out _ hx'; have sz1 := Nat.lt_of_succ_lt sz; have sz0 := Nat.lt_of_succ_lt sz1)
        | fail)
      obtain ⟨W5, hW5⟩ : ∃ W5, W5 = (w'.setCell ⟨w.heap.size + 1, 0, none⟩ (.int .u64 (kcut b 32).v)).setCell ⟨w.heap.size + 1, 1, none⟩ (.int .u64 (kcut b 32).m) := ⟨_, rfl⟩
      rw [← hW5]
      have c := MW4.out _ hx'
      have c0 := c.1.off (w.heap.size + 1) (.int .u64 (kcut b 32).v) (.int .u64 (kcut b 32).m) (by omega)
      rw [← hW5] at c0
      have c1 := c.2.1.put (.int .u64 (kcut b 32).v) (.int .u64 (kcut b 32).m)
      rw [← hW5] at c1
      have c2 := c.2.2.1.off (w.heap.size + 1) (.int .u64 (kcut b 32).v) (.int .u64 (kcut b 32).m) (by omega)
      rw [← hW5] at c2
      have xW5 : Ext w W5 := by rw [hW5]; exact (xW4.trans hx').store2 (by omega) _ _
      have sW5 : w.heap.size + 1 + 1 < W5.heap.size := by rw [hW5]; simpa [World.setCell] using sz
      clear hW5 p0 p1 pf q0 q1 qf r0 r1 rf sz sz0 sz1 c hx'
      have MW5 := hide (fun w' (h : Ext W5 w') => And.intro (c0.ext h) (And.intro (c1.ext h) (And.intro (c2.ext h) (Nat.lt_of_lt_of_le sW5 h.size))))
      clear c0 c1 c2 sW5
      have hx' : Ext W5 W5 := Ext.refl _
      (try clear p0 p1 pf q0 q1 qf r0 r1 rf sz sz0 sz1); obtain ⟨⟨p0, p1, pf⟩, ⟨q0, q1, qf⟩, ⟨r0, r1, rf⟩, sz⟩ := MW5.out _ hx'; have sz1 := Nat.lt_of_succ_lt sz; have sz0 := Nat.lt_of_succ_lt sz1
      have wk : (kop 10 32 (kcut a 32) (kcut b 32)).wf := HWK.out
      go_wp2_with (first
        | (go_at_call 48; (with_reducible refine (rall_any W5 _ (by assumption)).mono ?_); rintro e w' ⟨rfl, hx'⟩; (try clear p0 p1 pf q0 q1 qf r0 r1 rf sz sz0 sz1); obtain ⟨⟨p0, p1, pf⟩, ⟨q0, q1, qf⟩, ⟨r0, r1, rf⟩, sz⟩ := MW5.out _ hx'; have sz1 := Nat.lt_of_succ_lt sz; have sz0 := Nat.lt_of_succ_lt sz1)
        | (go_at_call 45; refine (rkcut_any (kxor (kcut a 32) (kcut b 32)) _ W5 _ (by with_reducible repeat (first | assumption | apply Ext.alloc | apply Ext.drew | (refine Ext.store1 ?_ (by omega) _))) wk).mono ?_; rintro e w' ⟨rfl, hx'⟩; (try clear p0 p1 pf q0 q1 qf r0 r1 rf sz sz0 sz1); obtain ⟨⟨p0, p1, pf⟩, ⟨q0, q1, qf⟩, ⟨r0, r1, rf⟩, sz⟩ := MW5.out _ hx'; have sz1 := Nat.lt_of_succ_lt sz; have sz0 := Nat.lt_of_succ_lt sz1)
        | fail)
      exact bodyPost_ret (by simp [results, Try.results25, go_sem, r0, r1, sz, Nat.ne_of_lt sz, Nat.ne_of_gt sz] <;> (first | exact ⟨rfl, rfl⟩ | rfl)) rfl ⟨rfl, by (refine hx.trans ?_; with_reducible repeat (first | assumption | exact xW5.trans hx' | apply Ext.alloc | apply Ext.drew | (refine Ext.store1 ?_ (by omega) _)))⟩
  · rcases hc with m1 | ⟨m1, m2⟩
    all_goals
      go_enter Try.func25, Try.ntmps25
      go_wp2_with fail
      rw [← hW3]
      clear hW3
      (try clear p0 p1 pf q0 q1 qf r0 r1 rf sz sz0 sz1); obtain ⟨⟨p0, p1, pf⟩, ⟨q0, q1, qf⟩, ⟨r0, r1, rf⟩, sz⟩ := MK.out _ hx'; have sz1 := Nat.lt_of_succ_lt sz; have sz0 := Nat.lt_of_succ_lt sz1
      go_wp2_with (first
        | (go_at_call 40; (with_reducible refine (rmay_any a W3 _ (by assumption)).mono ?_); rintro e w' ⟨rfl, hx'⟩; (try clear p0 p1 pf q0 q1 qf r0 r1 rf sz sz0 sz1); obtain ⟨⟨p0, p1, pf⟩, ⟨q0, q1, qf⟩, ⟨r0, r1, rf⟩, sz⟩ := MK.out _ hx'; have sz1 := Nat.lt_of_succ_lt sz; have sz0 := Nat.lt_of_succ_lt sz1)
        | (go_at_call 40; (with_reducible refine (rmay_any b W3 _ (by assumption)).mono ?_); rintro e w' ⟨rfl, hx'⟩; (try clear p0 p1 pf q0 q1 qf r0 r1 rf sz sz0 sz1); obtain ⟨⟨p0, p1, pf⟩, ⟨q0, q1, qf⟩, ⟨r0, r1, rf⟩, sz⟩ := MK.out _ hx'; have sz1 := Nat.lt_of_succ_lt sz; have sz0 := Nat.lt_of_succ_lt sz1)
        | (go_at_call 45; (with_reducible refine (rkcut_any a _ W3 _ (by assumption) ha).mono ?_); rintro e w' ⟨rfl, hx'⟩; (try clear p0 p1 pf q0 q1 qf r0 r1 rf sz sz0 sz1); obtain ⟨⟨p0, p1, pf⟩, ⟨q0, q1, qf⟩, ⟨r0, r1, rf⟩, sz⟩ := MK.out _ hx'; have sz1 := Nat.lt_of_succ_lt sz; have sz0 := Nat.lt_of_succ_lt sz1)
        | fail)
      obtain ⟨W4, hW4⟩ : ∃ W4, W4 = (w'.setCell ⟨w.heap.size, 0, none⟩ (.int .u64 (kcut a 32).v)).setCell ⟨w.heap.size, 1, none⟩ (.int .u64 (kcut a 32).m) := ⟨_, rfl⟩
      rw [← hW4]
      have c := MK.out _ hx'
      have c0 := c.1.put (.int .u64 (kcut a 32).v) (.int .u64 (kcut a 32).m)
      rw [← hW4] at c0
      have c1 := c.2.1.off (w.heap.size) (.int .u64 (kcut a 32).v) (.int .u64 (kcut a 32).m) (by omega)
      rw [← hW4] at c1
      have c2 := c.2.2.1.off (w.heap.size) (.int .u64 (kcut a 32).v) (.int .u64 (kcut a 32).m) (by omega)
      rw [← hW4] at c2
      have xW4 : Ext w W4 := by rw [hW4]; exact (x3.trans hx').store2 (by omega) _ _
      have sW4 : w.heap.size + 1 + 1 < W4.heap.size := by rw [hW4]; simpa [World.setCell] using sz
      clear hW4 p0 p1 pf q0 q1 qf r0 r1 rf sz sz0 sz1 c hx'
      have MW4 := hide (fun w' (h : Ext W4 w') => And.intro (c0.ext h) (And.intro (c1.ext h) (And.intro (c2.ext h) (Nat.lt_of_lt_of_le sW4 h.size))))
      clear c0 c1 c2 sW4
      have hx' : Ext W4 W4 := Ext.refl _
      (try clear p0 p1 pf q0 q1 qf r0 r1 rf sz sz0 sz1); obtain ⟨⟨p0, p1, pf⟩, ⟨q0, q1, qf⟩, ⟨r0, r1, rf⟩, sz⟩ := MW4.out _ hx'; have sz1 := Nat.lt_of_succ_lt sz; have sz0 := Nat.lt_of_succ_lt sz1
      go_wp2_with (first
        | (go_at_call 45; (with_reducible refine (rkcut_any b _ W4 _ (by assumption) hb).mono ?_); rintro e w' ⟨rfl, hx'⟩; (try clear p0 p1 pf q0 q1 qf r0 r1 rf sz sz0 sz1); obtain ⟨⟨p0, p1, pf⟩, ⟨q0, q1, qf⟩, ⟨r0, r1, rf⟩, sz⟩ := MW4.out _ hx'; have sz1 := Nat.lt_of_succ_lt sz; have sz0 := Nat.lt_of_succ_lt sz1)
        | fail)
      obtain ⟨W5, hW5⟩ : ∃ W5, W5 = (w'.setCell ⟨w.heap.size + 1, 0, none⟩ (.int .u64 (kcut b 32).v)).setCell ⟨w.heap.size + 1, 1, none⟩ (.int .u64 (kcut b 32).m) := ⟨_, rfl⟩
      rw [← hW5]
      have c := MW4.out _ hx'
      have c0 := c.1.off (w.heap.size + 1) (.int .u64 (kcut b 32).v) (.int .u64 (kcut b 32).m) (by omega)
      rw [← hW5] at c0
      have c1 := c.2.1.put (.int .u64 (kcut b 32).v) (.int .u64 (kcut b 32).m)
      rw [← hW5] at c1
      have c2 := c.2.2.1.off (w.heap.size + 1) (.int .u64 (kcut b 32).v) (.int .u64 (kcut b 32).m) (by omega)
      rw [← hW5] at c2
      have xW5 : Ext w W5 := by rw [hW5]; exact (xW4.trans hx').store2 (by omega) _ _
      have sW5 : w.heap.size + 1 + 1 < W5.heap.size := by rw [hW5]; simpa [World.setCell] using sz
      clear hW5 p0 p1 pf q0 q1 qf r0 r1 rf sz sz0 sz1 c hx'
      have MW5 := hide (fun w' (h : Ext W5 w') => And.intro (c0.ext h) (And.intro (c1.ext h) (And.intro (c2.ext h) (Nat.lt_of_lt_of_le sW5 h.size))))
      clear c0 c1 c2 sW5
      have hx' : Ext W5 W5 := Ext.refl _
      (try clear p0 p1 pf q0 q1 qf r0 r1 rf sz sz0 sz1); obtain ⟨⟨p0, p1, pf⟩, ⟨q0, q1, qf⟩, ⟨r0, r1, rf⟩, sz⟩ := MW5.out _ hx'; have sz1 := Nat.lt_of_succ_lt sz; have sz0 := Nat.lt_of_succ_lt sz1
      have wk : (kop 11 32 (kcut a 32) (kcut b 32)).wf := HWK.out
      go_wp2_with (first
        | (go_at_call 48; (with_reducible refine (rall_any W5 _ (by assumption)).mono ?_); rintro e w' ⟨rfl, hx'⟩; (try clear p0 p1 pf q0 q1 qf r0 r1 rf sz sz0 sz1); obtain ⟨⟨p0, p1, pf⟩, ⟨q0, q1, qf⟩, ⟨r0, r1, rf⟩, sz⟩ := MW5.out _ hx'; have sz1 := Nat.lt_of_succ_lt sz; have sz0 := Nat.lt_of_succ_lt sz1)
        | (go_at_call 45; refine (rkcut_any (kcut b 32) _ W5 _ (by with_reducible repeat (first | assumption | apply Ext.alloc | apply Ext.drew | (refine Ext.store1 ?_ (by omega) _))) HWB.out).mono ?_; rintro e w' ⟨rfl, hx'⟩; (try clear p0 p1 pf q0 q1 qf r0 r1 rf sz sz0 sz1); obtain ⟨⟨p0, p1, pf⟩, ⟨q0, q1, qf⟩, ⟨r0, r1, rf⟩, sz⟩ := MW5.out _ hx'; have sz1 := Nat.lt_of_succ_lt sz; have sz0 := Nat.lt_of_succ_lt sz1)
        | fail)
      exact bodyPost_ret (by simp [results, Try.results25, go_sem, r0, r1, sz, Nat.ne_of_lt sz, Nat.ne_of_gt sz] <;> (first | exact ⟨rfl, rfl⟩ | rfl)) rfl ⟨rfl, by (refine hx.trans ?_; with_reducible repeat (first | assumption | exact xW5.trans hx' | apply Ext.alloc | apply Ext.drew | (refine Ext.store1 ?_ (by omega) _)))⟩
  · rcases hc with m1 | ⟨m1, m2⟩
    all_goals
      rcases Bool.eq_false_or_eq_true (bits .and .u64 (kcut b 32).m (32 - 1) == 0) with hs | hs
      · have HS := hide hs
        have HK : Hid (kop 12 32 (kcut a 32) (kcut b 32) = (kshift 12 32 (kcut a 32) (kcut b 32))) := hide (by (have hs' : bits .and .u64 (kcut b 32).m 31 = 0 := (by simpa using hs)); simp [kop, hs'])
        clear hs
        go_enter Try.func25, Try.ntmps25
        go_wp2_with fail
        rw [← hW3]
        clear hW3
        (try clear p0 p1 pf q0 q1 qf r0 r1 rf sz sz0 sz1); obtain ⟨⟨p0, p1, pf⟩, ⟨q0, q1, qf⟩, ⟨r0, r1, rf⟩, sz⟩ := MK.out _ hx'; have sz1 := Nat.lt_of_succ_lt sz; have sz0 := Nat.lt_of_succ_lt sz1
        go_wp2_with (first
          | (go_at_call 40; (with_reducible refine (rmay_any a W3 _ (by assumption)).mono ?_); rintro e w' ⟨rfl, hx'⟩; (try clear p0 p1 pf q0 q1 qf r0 r1 rf sz sz0 sz1); obtain ⟨⟨p0, p1, pf⟩, ⟨q0, q1, qf⟩, ⟨r0, r1, rf⟩, sz⟩ := MK.out _ hx'; have sz1 := Nat.lt_of_succ_lt sz; have sz0 := Nat.lt_of_succ_lt sz1)
          | (go_at_call 40; (with_reducible refine (rmay_any b W3 _ (by assumption)).mono ?_); rintro e w' ⟨rfl, hx'⟩; (try clear p0 p1 pf q0 q1 qf r0 r1 rf sz sz0 sz1); obtain ⟨⟨p0, p1, pf⟩, ⟨q0, q1, qf⟩, ⟨r0, r1, rf⟩, sz⟩ := MK.out _ hx'; have sz1 := Nat.lt_of_succ_lt sz; have sz0 := Nat.lt_of_succ_lt sz1)
          | (go_at_call 45; (with_reducible refine (rkcut_any a _ W3 _ (by assumption) ha).mono ?_); rintro e w' ⟨rfl, hx'⟩; (try clear p0 p1 pf q0 q1 qf r0 r1 rf sz sz0 sz1); obtain ⟨⟨p0, p1, pf⟩, ⟨q0, q1, qf⟩, ⟨r0, r1, rf⟩, sz⟩ := MK.out _ hx'; have sz1 := Nat.lt_of_succ_lt sz; have sz0 := Nat.lt_of_succ_lt sz1)
          | fail)
        obtain ⟨W4, hW4⟩ : ∃ W4, W4 = (w'.setCell ⟨w.heap.size, 0, none⟩ (.int .u64 (kcut a 32).v)).setCell ⟨w.heap.size, 1, none⟩ (.int .u64 (kcut a 32).m) := ⟨_, rfl⟩
        rw [← hW4]
        have c := MK.out _ hx'
        have c0 := c.1.put (.int .u64 (kcut a 32).v) (.int .u64 (kcut a 32).m)
        rw [← hW4] at c0
        have c1 := c.2.1.off (w.heap.size) (.int .u64 (kcut a 32).v) (.int .u64 (kcut a 32).m) (by omega)
        rw [← hW4] at c1
        have c2 := c.2.2.1.off (w.heap.size) (.int .u64 (kcut a 32).v) (.int .u64 (kcut a 32).m) (by omega)
        rw [← hW4] at c2
        have xW4 : Ext w W4 := by rw [hW4]; exact (x3.trans hx').store2 (by omega) _ _
        have sW4 : w.heap.size + 1 + 1 < W4.heap.size := by rw [hW4]; simpa [World.setCell] using sz
        clear hW4 p0 p1 pf q0 q1 qf r0 r1 rf sz sz0 sz1 c hx'
        have MW4 := hide (fun w' (h : Ext W4 w') => And.intro (c0.ext h) (And.intro (c1.ext h) (And.intro (c2.ext h) (Nat.lt_of_lt_of_le sW4 h.size))))
        clear c0 c1 c2 sW4
        have hx' : Ext W4 W4 := Ext.refl _
        (try clear p0 p1 pf q0 q1 qf r0 r1 rf sz sz0 sz1); obtain ⟨⟨p0, p1, pf⟩, ⟨q0, q1, qf⟩, ⟨r0, r1, rf⟩, sz⟩ := MW4.out _ hx'; have sz1 := Nat.lt_of_succ_lt sz; have sz0 := Nat.lt_of_succ_lt sz1
        go_wp2_with (first
          | (go_at_call 45; (with_reducible refine (rkcut_any b _ W4 _ (by assumption) hb).mono ?_); rintro e w' ⟨rfl, hx'⟩; (try clear p0 p1 pf q0 q1 qf r0 r1 rf sz sz0 sz1); obtain ⟨⟨p0, p1, pf⟩, ⟨q0, q1, qf⟩, ⟨r0, r1, rf⟩, sz⟩ := MW4.out _ hx'; have sz1 := Nat.lt_of_succ_lt sz; have sz0 := Nat.lt_of_succ_lt sz1)
          | fail)
        obtain ⟨W5, hW5⟩ : ∃ W5, W5 = (w'.setCell ⟨w.heap.size + 1, 0, none⟩ (.int .u64 (kcut b 32).v)).setCell ⟨w.heap.size + 1, 1, none⟩ (.int .u64 (kcut b 32).m) := ⟨_, rfl⟩
        rw [← hW5]
        have c := MW4.out _ hx'
        have c0 := c.1.off (w.heap.size + 1) (.int .u64 (kcut b 32).v) (.int .u64 (kcut b 32).m) (by omega)
        rw [← hW5] at c0
        have c1 := c.2.1.put (.int .u64 (kcut b 32).v) (.int .u64 (kcut b 32).m)
        rw [← hW5] at c1
        have c2 := c.2.2.1.off (w.heap.size + 1) (.int .u64 (kcut b 32).v) (.int .u64 (kcut b 32).m) (by omega)
        rw [← hW5] at c2
        have xW5 : Ext w W5 := by rw [hW5]; exact (xW4.trans hx').store2 (by omega) _ _
        have sW5 : w.heap.size + 1 + 1 < W5.heap.size := by rw [hW5]; simpa [World.setCell] using sz
        clear hW5 p0 p1 pf q0 q1 qf r0 r1 rf sz sz0 sz1 c hx'
        have MW5 := hide (fun w' (h : Ext W5 w') => And.intro (c0.ext h) (And.intro (c1.ext h) (And.intro (c2.ext h) (Nat.lt_of_lt_of_le sW5 h.size))))
        clear c0 c1 c2 sW5
        have hx' : Ext W5 W5 := Ext.refl _
        (try clear p0 p1 pf q0 q1 qf r0 r1 rf sz sz0 sz1); obtain ⟨⟨p0, p1, pf⟩, ⟨q0, q1, qf⟩, ⟨r0, r1, rf⟩, sz⟩ := MW5.out _ hx'; have sz1 := Nat.lt_of_succ_lt sz; have sz0 := Nat.lt_of_succ_lt sz1
        have wk : (kop 12 32 (kcut a 32) (kcut b 32)).wf := HWK.out
        go_wp2_with (first
          | (go_at_call 48; (with_reducible refine (rall_any W5 _ (by assumption)).mono ?_); rintro e w' ⟨rfl, hx'⟩; (try clear p0 p1 pf q0 q1 qf r0 r1 rf sz sz0 sz1); obtain ⟨⟨p0, p1, pf⟩, ⟨q0, q1, qf⟩, ⟨r0, r1, rf⟩, sz⟩ := MW5.out _ hx'; have sz1 := Nat.lt_of_succ_lt sz; have sz0 := Nat.lt_of_succ_lt sz1)
          | (go_at_call 64; refine (rshift_yes 12 32 (kcut a 32) (kcut b 32) _ _ (Ext.refl _) HWA.out HWB.out (by decide) (by decide) (by decide) HS.out).mono ?_; rintro e w' ⟨rfl, hy⟩; have hx5 := hx'; have hx' := (hx5.alloc _).trans hy; (try clear p0 p1 pf q0 q1 qf r0 r1 rf sz sz0 sz1); obtain ⟨⟨p0, p1, pf⟩, ⟨q0, q1, qf⟩, ⟨r0, r1, rf⟩, sz⟩ := MW5.out _ hx'; have sz1 := Nat.lt_of_succ_lt sz; have sz0 := Nat.lt_of_succ_lt sz1; obtain ⟨⟨o0, o1, of⟩, so⟩ := new1 hy; have so' := Ext.size hx5; clear hy)
          | (go_at_call 45; refine (rkcut_any (kshift 12 32 (kcut a 32) (kcut b 32)) _ W5 _ (by with_reducible repeat (first | assumption | apply Ext.alloc | apply Ext.drew | (refine Ext.store1 ?_ (by omega) _))) (by rw [HK.out] at wk; exact wk)).mono ?_; rintro e w' ⟨rfl, hx'⟩; (try clear p0 p1 pf q0 q1 qf r0 r1 rf sz sz0 sz1); obtain ⟨⟨p0, p1, pf⟩, ⟨q0, q1, qf⟩, ⟨r0, r1, rf⟩, sz⟩ := MW5.out _ hx'; have sz1 := Nat.lt_of_succ_lt sz; have sz0 := Nat.lt_of_succ_lt sz1)
          | fail)
        rw [HK.out]
        exact bodyPost_ret (by simp [results, Try.results25, go_sem, r0, r1, sz, Nat.ne_of_lt sz, Nat.ne_of_gt sz] <;> (first | exact ⟨rfl, rfl⟩ | rfl)) rfl ⟨rfl, by (refine hx.trans ?_; with_reducible repeat (first | assumption | exact xW5.trans hx' | apply Ext.alloc | apply Ext.drew | (refine Ext.store1 ?_ (by omega) _)))⟩
      · have HS := hide hs
        have HK : Hid (kop 12 32 (kcut a 32) (kcut b 32) = kall) := hide (by (have hs' : ¬ bits .and .u64 (kcut b 32).m 31 = 0 := (by simpa using hs)); simp [kop, hs'])
        clear hs
        go_enter Try.func25, Try.ntmps25
        go_wp2_with fail
        rw [← hW3]
        clear hW3
        (try clear p0 p1 pf q0 q1 qf r0 r1 rf sz sz0 sz1); obtain ⟨⟨p0, p1, pf⟩, ⟨q0, q1, qf⟩, ⟨r0, r1, rf⟩, sz⟩ := MK.out _ hx'; have sz1 := Nat.lt_of_succ_lt sz; have sz0 := Nat.lt_of_succ_lt sz1
        go_wp2_with (first
          | (go_at_call 40; (with_reducible refine (rmay_any a W3 _ (by assumption)).mono ?_); rintro e w' ⟨rfl, hx'⟩; (try clear p0 p1 pf q0 q1 qf r0 r1 rf sz sz0 sz1); obtain ⟨⟨p0, p1, pf⟩, ⟨q0, q1, qf⟩, ⟨r0, r1, rf⟩, sz⟩ := MK.out _ hx'; have sz1 := Nat.lt_of_succ_lt sz; have sz0 := Nat.lt_of_succ_lt sz1)
          | (go_at_call 40; (with_reducible refine (rmay_any b W3 _ (by assumption)).mono ?_); rintro e w' ⟨rfl, hx'⟩; (try clear p0 p1 pf q0 q1 qf r0 r1 rf sz sz0 sz1); obtain ⟨⟨p0, p1, pf⟩, ⟨q0, q1, qf⟩, ⟨r0, r1, rf⟩, sz⟩ := MK.out _ hx'; have sz1 := Nat.lt_of_succ_lt sz; have sz0 := Nat.lt_of_succ_lt sz1)
          | (go_at_call 45; (with_reducible refine (rkcut_any a _ W3 _ (by assumption) ha).mono ?_); rintro e w' ⟨rfl, hx'⟩; (try clear p0 p1 pf q0 q1 qf r0 r1 rf sz sz0 sz1); obtain ⟨⟨p0, p1, pf⟩, ⟨q0, q1, qf⟩, ⟨r0, r1, rf⟩, sz⟩ := MK.out _ hx'; have sz1 := Nat.lt_of_succ_lt sz; have sz0 := Nat.lt_of_succ_lt sz1)
          | fail)
        obtain ⟨W4, hW4⟩ : ∃ W4, W4 = (w'.setCell ⟨w.heap.size, 0, none⟩ (.int .u64 (kcut a 32).v)).setCell ⟨w.heap.size, 1, none⟩ (.int .u64 (kcut a 32).m) := ⟨_, rfl⟩
        rw [← hW4]
        have c := MK.out _ hx'
        have c0 := c.1.put (.int .u64 (kcut a 32).v) (.int .u64 (kcut a 32).m)
        rw [← hW4] at c0
        have c1 := c.2.1.off (w.heap.size) (.int .u64 (kcut a 32).v) (.int .u64 (kcut a 32).m) (by omega)
        rw [← hW4] at c1
        have c2 := c.2.2.1.off (w.heap.size) (.int .u64 (kcut a 32).v) (.int .u64 (kcut a 32).m) (by omega)
        rw [← hW4] at c2
        have xW4 : Ext w W4 := by rw [hW4]; exact (x3.trans hx').store2 (by omega) _ _
        have sW4 : w.heap.size + 1 + 1 < W4.heap.size := by rw [hW4]; simpa [World.setCell] using sz
        clear hW4 p0 p1 pf q0 q1 qf r0 r1 rf sz sz0 sz1 c hx'
        have MW4 := hide (fun w' (h : Ext W4 w') => And.intro (c0.ext h) (And.intro (c1.ext h) (And.intro (c2.ext h) (Nat.lt_of_lt_of_le sW4 h.size))))
        clear c0 c1 c2 sW4
        have hx' : Ext W4 W4 := Ext.refl _
        (try clear p0 p1 pf q0 q1 qf r0 r1 rf sz sz0 sz1); obtain ⟨⟨p0, p1, pf⟩, ⟨q0, q1, qf⟩, ⟨r0, r1, rf⟩, sz⟩ := MW4.out _ hx'; have sz1 := Nat.lt_of_succ_lt sz; have sz0 := Nat.lt_of_succ_lt sz1
        go_wp2_with (first
          | (go_at_call 45; (with_reducible refine (rkcut_any b _ W4 _ (by assumption) hb).mono ?_); rintro e w' ⟨rfl, hx'⟩; (try clear p0 p1 pf q0 q1 qf r0 r1 rf sz sz0 sz1); obtain ⟨⟨p0, p1, pf⟩, ⟨q0, q1, qf⟩, ⟨r0, r1, rf⟩, sz⟩ := MW4.out _ hx'; have sz1 := Nat.lt_of_succ_lt sz; have sz0 := Nat.lt_of_succ_lt sz1)
          | fail)
        obtain ⟨W5, hW5⟩ : ∃ W5, W5 = (w'.setCell ⟨w.heap.size + 1, 0, none⟩ (.int .u64 (kcut b 32).v)).setCell ⟨w.heap.size + 1, 1, none⟩ (.int .u64 (kcut b 32).m) := ⟨_, rfl⟩
        rw [← hW5]
        have c := MW4.out _ hx'
        have c0 := c.1.off (w.heap.size + 1) (.int .u64 (kcut b 32).v) (.int .u64 (kcut b 32).m) (by omega)
        rw [← hW5] at c0
        have c1 := c.2.1.put (.int .u64 (kcut b 32).v) (.int .u64 (kcut b 32).m)
        rw [← hW5] at c1
        have c2 := c.2.2.1.off (w.heap.size + 1) (.int .u64 (kcut b 32).v) (.int .u64 (kcut b 32).m) (by omega)
        rw [← hW5] at c2
        have xW5 : Ext w W5 := by rw [hW5]; exact (xW4.trans hx').store2 (by omega) _ _
        have sW5 : w.heap.size + 1 + 1 < W5.heap.size := by rw [hW5]; simpa [World.setCell] using sz
        clear hW5 p0 p1 pf q0 q1 qf r0 r1 rf sz sz0 sz1 c hx'
        have MW5 := hide (fun w' (h : Ext W5 w') => And.intro (c0.ext h) (And.intro (c1.ext h) (And.intro (c2.ext h) (Nat.lt_of_lt_of_le sW5 h.size))))
        clear c0 c1 c2 sW5
        have hx' : Ext W5 W5 := Ext.refl _
        (try clear p0 p1 pf q0 q1 qf r0 r1 rf sz sz0 sz1); obtain ⟨⟨p0, p1, pf⟩, ⟨q0, q1, qf⟩, ⟨r0, r1, rf⟩, sz⟩ := MW5.out _ hx'; have sz1 := Nat.lt_of_succ_lt sz; have sz0 := Nat.lt_of_succ_lt sz1
        have wk : (kop 12 32 (kcut a 32) (kcut b 32)).wf := HWK.out
        go_wp2_with (first
          | (go_at_call 48; (with_reducible refine (rall_any W5 _ (by assumption)).mono ?_); rintro e w' ⟨rfl, hx'⟩; (try clear p0 p1 pf q0 q1 qf r0 r1 rf sz sz0 sz1); obtain ⟨⟨p0, p1, pf⟩, ⟨q0, q1, qf⟩, ⟨r0, r1, rf⟩, sz⟩ := MW5.out _ hx'; have sz1 := Nat.lt_of_succ_lt sz; have sz0 := Nat.lt_of_succ_lt sz1)
          | (go_at_call 64; refine (rshift_no 12 32 (kcut a 32) (kcut b 32) _ _ (Ext.refl _) HWA.out HWB.out (by decide) (by decide) (by decide) HS.out).mono ?_; rintro e w' ⟨rfl, hy⟩; have hx5 := hx'; have hx' := (hx5.alloc _).trans hy; (try clear p0 p1 pf q0 q1 qf r0 r1 rf sz sz0 sz1); obtain ⟨⟨p0, p1, pf⟩, ⟨q0, q1, qf⟩, ⟨r0, r1, rf⟩, sz⟩ := MW5.out _ hx'; have sz1 := Nat.lt_of_succ_lt sz; have sz0 := Nat.lt_of_succ_lt sz1; obtain ⟨⟨o0, o1, of⟩, so⟩ := new1 hy; have so' := Ext.size hx5; clear hy)
          | (go_at_call 45; refine (rkcut_any kall _ W5 _ (by with_reducible repeat (first | assumption | apply Ext.alloc | apply Ext.drew | (refine Ext.store1 ?_ (by omega) _))) wf_kall).mono ?_; rintro e w' ⟨rfl, hx'⟩; (try clear p0 p1 pf q0 q1 qf r0 r1 rf sz sz0 sz1); obtain ⟨⟨p0, p1, pf⟩, ⟨q0, q1, qf⟩, ⟨r0, r1, rf⟩, sz⟩ := MW5.out _ hx'; have sz1 := Nat.lt_of_succ_lt sz; have sz0 := Nat.lt_of_succ_lt sz1)
          | fail)
        rw [HK.out]
        exact bodyPost_ret (by simp [results, Try.results25, go_sem, r0, r1, sz, Nat.ne_of_lt sz, Nat.ne_of_gt sz] <;> (first | exact ⟨rfl, rfl⟩ | rfl)) rfl ⟨rfl, by (refine hx.trans ?_; with_reducible repeat (first | assumption | exact xW5.trans hx' | apply Ext.alloc | apply Ext.drew | (refine Ext.store1 ?_ (by omega) _)))⟩
end Go.Proofs.Ytkoiaadhbgccaaa
