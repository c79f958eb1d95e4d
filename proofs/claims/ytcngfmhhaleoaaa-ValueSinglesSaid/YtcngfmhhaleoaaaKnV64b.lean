/- The walk of known.Do at 64 bits, behind the test of both masks: some operations. -/
import Derived.Test.YtcngfmhhaleoaaaKnF
import Derived.Deep.RegionHeld3
import Derived.Deep.RegionWith
import Derived.Deep.DeepCutAuto
set_option linter.unusedVariables false
set_option linter.unusedSimpArgs false
namespace Go.Proofs.Ytcngfmhhaleoaaa
open Go.RowKit

attribute [local go_sem] fneq_nil fneq_add fneq_sub fneq_and fneq_or fneq_xor fneq_neg fneq_second

set_option maxRecDepth 100000 in
set_option maxHeartbeats 16000000 in
theorem kdo64_3 (a b : Kn) (W w : World) (hx : Ext W w) (ha : a.wf) (hb : b.wf) (h1 : kmay a = true) (h2 : kmay b = true) (hm : (bits .or .u64 (kcut a 64).m (kcut b 64).m == 0) = false) :
    Calls Try.prog 86 #[.int .i8 3, .int .i8 64, .agg #[.int .u64 a.v, .int .u64 a.m], .agg #[.int .u64 b.v, .int .u64 b.m]] w fun e w' => e = .returned (.agg #[.int .u64 (kcut (kop 3 64 (kcut a 64) (kcut b 64)) 64).v, .int .u64 (kcut (kop 3 64 (kcut a 64) (kcut b 64)) 64).m]) ∧ Ext W w' := by
  obtain ⟨W3, hW3⟩ : ∃ W3, W3 = (((w.alloc (.cells #[.int .u64 a.v, .int .u64 a.m] 50)).alloc (.cells #[.int .u64 b.v, .int .u64 b.m] 50)).alloc (.cells #[.int .u64 0, .int .u64 0] 50)) := ⟨_, rfl⟩
  have x3 : Ext w W3 := by rw [hW3]; exact ((((Ext.refl w).alloc _).alloc _).alloc _)
  have MK := hide (fun w' (h : Ext W3 w') => new3 (hW3 ▸ h))
  have hx' : Ext W3 W3 := Ext.refl _
  have wA := wf_kcut ha 64
  have wB := wf_kcut hb 64
  have HWA := hide wA
  have HWB := hide wB
  have HWK := hide (wf_kop wA wB 3 64)
  obtain ⟨⟨A1, A2⟩, A3, A4⟩ := wA
  clear wB
  go_enter Try.func86, Try.ntmps86
  go_wp2_with fail
  rw [← hW3]
  clear hW3
  (try clear p0 p1 pf q0 q1 qf r0 r1 rf sz sz0 sz1); obtain ⟨⟨p0, p1, pf⟩, ⟨q0, q1, qf⟩, ⟨r0, r1, rf⟩, sz⟩ := MK.out _ hx'; have sz1 := Nat.lt_of_succ_lt sz; have sz0 := Nat.lt_of_succ_lt sz1
  go_upto_region 3 with (first | (go_at_call 100; (with_reducible refine (kmay_any a W3 _ (by assumption)).mono ?_); rintro e w' ⟨rfl, hx'⟩; (try clear p0 p1 pf q0 q1 qf r0 r1 rf sz sz0 sz1); obtain ⟨⟨p0, p1, pf⟩, ⟨q0, q1, qf⟩, ⟨r0, r1, rf⟩, sz⟩ := MK.out _ hx'; have sz1 := Nat.lt_of_succ_lt sz; have sz0 := Nat.lt_of_succ_lt sz1) | (go_at_call 100; (with_reducible refine (kmay_any b W3 _ (by assumption)).mono ?_); rintro e w' ⟨rfl, hx'⟩; (try clear p0 p1 pf q0 q1 qf r0 r1 rf sz sz0 sz1); obtain ⟨⟨p0, p1, pf⟩, ⟨q0, q1, qf⟩, ⟨r0, r1, rf⟩, sz⟩ := MK.out _ hx'; have sz1 := Nat.lt_of_succ_lt sz; have sz0 := Nat.lt_of_succ_lt sz1) | fail)
  go_cut [44] (fun s44 wx => Hid ((C2 wx w.heap.size (.int .u64 (kcut a 64).v) (.int .u64 (kcut a 64).m) ∧ C2 wx (w.heap.size + 1) (.int .u64 (kcut b 64).v) (.int .u64 (kcut b 64).m) ∧ C2 wx (w.heap.size + 1 + 1) (.int .u64 0) (.int .u64 0) ∧ w.heap.size + 1 + 1 < wx.heap.size) ∧ Ext w wx))
  case first =>
    go_region_with (first
      | (go_at_call 117; (with_reducible refine (kkcut_any a _ W3 _ (by with_reducible first | assumption | exact hx'.drew) ha).mono ?_); rintro e w' ⟨rfl, hx'⟩; (try clear p0 p1 pf q0 q1 qf r0 r1 rf sz sz0 sz1); obtain ⟨⟨p0, p1, pf⟩, ⟨q0, q1, qf⟩, ⟨r0, r1, rf⟩, sz⟩ := MK.out _ hx'; have sz1 := Nat.lt_of_succ_lt sz; have sz0 := Nat.lt_of_succ_lt sz1)
      | (go_at_call 117; (with_reducible refine (kkcut_any b _ W3 _ (by with_reducible first | assumption | exact hx'.drew) hb).mono ?_); rintro e w' ⟨rfl, hx'⟩; (try clear p0 p1 pf q0 q1 qf r0 r1 rf sz sz0 sz1); obtain ⟨⟨p0, p1, pf⟩, ⟨q0, q1, qf⟩, ⟨r0, r1, rf⟩, sz⟩ := MK.out _ hx'; have sz1 := Nat.lt_of_succ_lt sz; have sz0 := Nat.lt_of_succ_lt sz1))
    all_goals
      go_wp2_with fail
      go_meet
      have c := MK.out _ hx'
      have e1 : w.heap.size ≠ w.heap.size + 1 := by omega
      have e2 : w.heap.size + 1 ≠ w.heap.size := by omega
      have e3 : w.heap.size ≠ w.heap.size + 1 + 1 := by omega
      have e4 : w.heap.size + 1 ≠ w.heap.size + 1 + 1 := by omega
      have xs := x3.trans hx'
      exact hide ⟨⟨(c.1.put _ _).off _ _ _ e2, (c.2.1.off _ _ _ e1).put _ _, (c.2.2.1.off _ _ _ e3).off _ _ _ e4, by simpa [World.setCell] using sz⟩, (xs.store2 (Nat.le_refl _) _ _).store2 (Nat.le_succ _) _ _⟩
  case rest =>
    obtain ⟨⟨c0, c1, c2, cs⟩, xW5⟩ := hcut.out
    clear hcut p0 p1 pf q0 q1 qf r0 r1 rf sz sz0 sz1 hx'
    obtain ⟨W5, hW5⟩ : ∃ W5, W5 = wc := ⟨_, rfl⟩
    rw [← hW5] at c0 c1 c2 cs xW5 ⊢
    clear hW5
    have MW5 := hide (fun w' (h : Ext W5 w') => And.intro (c0.ext h) (And.intro (c1.ext h) (And.intro (c2.ext h) (Nat.lt_of_lt_of_le cs h.size))))
    clear c0 c1 c2 cs
    have hx' : Ext W5 W5 := Ext.refl _
    (try clear p0 p1 pf q0 q1 qf r0 r1 rf sz sz0 sz1); obtain ⟨⟨p0, p1, pf⟩, ⟨q0, q1, qf⟩, ⟨r0, r1, rf⟩, sz⟩ := MW5.out _ hx'; have sz1 := Nat.lt_of_succ_lt sz; have sz0 := Nat.lt_of_succ_lt sz1
    go_wp2_with (first
      | (go_at_call 91; (with_reducible refine (kall_any _ _ (Ext.refl _)).mono ?_); rintro e w' ⟨rfl, hy⟩; have hx' := ((Ext.refl W5).alloc _).trans hy; (try clear p0 p1 pf q0 q1 qf r0 r1 rf sz sz0 sz1); obtain ⟨⟨p0, p1, pf⟩, ⟨q0, q1, qf⟩, ⟨r0, r1, rf⟩, sz⟩ := MW5.out _ hx'; have sz1 := Nat.lt_of_succ_lt sz; have sz0 := Nat.lt_of_succ_lt sz1; have D := Bk.new hy; have d : _ = some _ := D.cell 3; have dl := D.lt; clear D hy)
      | (go_at_call 117; refine (kkcut_any kall _ W5 _ (by with_reducible repeat (first | assumption | apply Ext.alloc | apply Ext.drew | (refine Ext.store1 ?_ (by omega) _))) wf_kall).mono ?_; rintro e w' ⟨rfl, hx'⟩; (try clear p0 p1 pf q0 q1 qf r0 r1 rf sz sz0 sz1); obtain ⟨⟨p0, p1, pf⟩, ⟨q0, q1, qf⟩, ⟨r0, r1, rf⟩, sz⟩ := MW5.out _ hx'; have sz1 := Nat.lt_of_succ_lt sz; have sz0 := Nat.lt_of_succ_lt sz1)
      | fail)
    exact bodyPost_ret (by simp [results, Try.results86, go_sem, r0, r1, sz, Nat.ne_of_lt sz, Nat.ne_of_gt sz] <;> (first | exact ⟨rfl, rfl⟩ | rfl)) rfl ⟨rfl, by (refine hx.trans ?_; with_reducible repeat (first | assumption | exact xW5.trans hx' | apply Ext.alloc | apply Ext.drew | (refine Ext.store1 ?_ (by omega) _)))⟩

set_option maxRecDepth 100000 in
set_option maxHeartbeats 16000000 in
theorem kdo64_4 (a b : Kn) (W w : World) (hx : Ext W w) (ha : a.wf) (hb : b.wf) (h1 : kmay a = true) (h2 : kmay b = true) (hm : (bits .or .u64 (kcut a 64).m (kcut b 64).m == 0) = false) :
    Calls Try.prog 86 #[.int .i8 4, .int .i8 64, .agg #[.int .u64 a.v, .int .u64 a.m], .agg #[.int .u64 b.v, .int .u64 b.m]] w fun e w' => e = .returned (.agg #[.int .u64 (kcut (kop 4 64 (kcut a 64) (kcut b 64)) 64).v, .int .u64 (kcut (kop 4 64 (kcut a 64) (kcut b 64)) 64).m]) ∧ Ext W w' := by
  obtain ⟨W3, hW3⟩ : ∃ W3, W3 = (((w.alloc (.cells #[.int .u64 a.v, .int .u64 a.m] 50)).alloc (.cells #[.int .u64 b.v, .int .u64 b.m] 50)).alloc (.cells #[.int .u64 0, .int .u64 0] 50)) := ⟨_, rfl⟩
  have x3 : Ext w W3 := by rw [hW3]; exact ((((Ext.refl w).alloc _).alloc _).alloc _)
  have MK := hide (fun w' (h : Ext W3 w') => new3 (hW3 ▸ h))
  have hx' : Ext W3 W3 := Ext.refl _
  have wA := wf_kcut ha 64
  have wB := wf_kcut hb 64
  have HWA := hide wA
  have HWB := hide wB
  have HWK := hide (wf_kop wA wB 4 64)
  obtain ⟨⟨A1, A2⟩, A3, A4⟩ := wA
  clear wB
  go_enter Try.func86, Try.ntmps86
  go_wp2_with fail
  rw [← hW3]
  clear hW3
  (try clear p0 p1 pf q0 q1 qf r0 r1 rf sz sz0 sz1); obtain ⟨⟨p0, p1, pf⟩, ⟨q0, q1, qf⟩, ⟨r0, r1, rf⟩, sz⟩ := MK.out _ hx'; have sz1 := Nat.lt_of_succ_lt sz; have sz0 := Nat.lt_of_succ_lt sz1
  go_upto_region 3 with (first | (go_at_call 100; (with_reducible refine (kmay_any a W3 _ (by assumption)).mono ?_); rintro e w' ⟨rfl, hx'⟩; (try clear p0 p1 pf q0 q1 qf r0 r1 rf sz sz0 sz1); obtain ⟨⟨p0, p1, pf⟩, ⟨q0, q1, qf⟩, ⟨r0, r1, rf⟩, sz⟩ := MK.out _ hx'; have sz1 := Nat.lt_of_succ_lt sz; have sz0 := Nat.lt_of_succ_lt sz1) | (go_at_call 100; (with_reducible refine (kmay_any b W3 _ (by assumption)).mono ?_); rintro e w' ⟨rfl, hx'⟩; (try clear p0 p1 pf q0 q1 qf r0 r1 rf sz sz0 sz1); obtain ⟨⟨p0, p1, pf⟩, ⟨q0, q1, qf⟩, ⟨r0, r1, rf⟩, sz⟩ := MK.out _ hx'; have sz1 := Nat.lt_of_succ_lt sz; have sz0 := Nat.lt_of_succ_lt sz1) | fail)
  go_cut [44] (fun s44 wx => Hid ((C2 wx w.heap.size (.int .u64 (kcut a 64).v) (.int .u64 (kcut a 64).m) ∧ C2 wx (w.heap.size + 1) (.int .u64 (kcut b 64).v) (.int .u64 (kcut b 64).m) ∧ C2 wx (w.heap.size + 1 + 1) (.int .u64 0) (.int .u64 0) ∧ w.heap.size + 1 + 1 < wx.heap.size) ∧ Ext w wx))
  case first =>
    go_region_with (first
      | (go_at_call 117; (with_reducible refine (kkcut_any a _ W3 _ (by with_reducible first | assumption | exact hx'.drew) ha).mono ?_); rintro e w' ⟨rfl, hx'⟩; (try clear p0 p1 pf q0 q1 qf r0 r1 rf sz sz0 sz1); obtain ⟨⟨p0, p1, pf⟩, ⟨q0, q1, qf⟩, ⟨r0, r1, rf⟩, sz⟩ := MK.out _ hx'; have sz1 := Nat.lt_of_succ_lt sz; have sz0 := Nat.lt_of_succ_lt sz1)
      | (go_at_call 117; (with_reducible refine (kkcut_any b _ W3 _ (by with_reducible first | assumption | exact hx'.drew) hb).mono ?_); rintro e w' ⟨rfl, hx'⟩; (try clear p0 p1 pf q0 q1 qf r0 r1 rf sz sz0 sz1); obtain ⟨⟨p0, p1, pf⟩, ⟨q0, q1, qf⟩, ⟨r0, r1, rf⟩, sz⟩ := MK.out _ hx'; have sz1 := Nat.lt_of_succ_lt sz; have sz0 := Nat.lt_of_succ_lt sz1))
    all_goals
      go_wp2_with fail
      go_meet
      have c := MK.out _ hx'
      have e1 : w.heap.size ≠ w.heap.size + 1 := by omega
      have e2 : w.heap.size + 1 ≠ w.heap.size := by omega
      have e3 : w.heap.size ≠ w.heap.size + 1 + 1 := by omega
      have e4 : w.heap.size + 1 ≠ w.heap.size + 1 + 1 := by omega
      have xs := x3.trans hx'
      exact hide ⟨⟨(c.1.put _ _).off _ _ _ e2, (c.2.1.off _ _ _ e1).put _ _, (c.2.2.1.off _ _ _ e3).off _ _ _ e4, by simpa [World.setCell] using sz⟩, (xs.store2 (Nat.le_refl _) _ _).store2 (Nat.le_succ _) _ _⟩
  case rest =>
    obtain ⟨⟨c0, c1, c2, cs⟩, xW5⟩ := hcut.out
    clear hcut p0 p1 pf q0 q1 qf r0 r1 rf sz sz0 sz1 hx'
    obtain ⟨W5, hW5⟩ : ∃ W5, W5 = wc := ⟨_, rfl⟩
    rw [← hW5] at c0 c1 c2 cs xW5 ⊢
    clear hW5
    have MW5 := hide (fun w' (h : Ext W5 w') => And.intro (c0.ext h) (And.intro (c1.ext h) (And.intro (c2.ext h) (Nat.lt_of_lt_of_le cs h.size))))
    clear c0 c1 c2 cs
    have hx' : Ext W5 W5 := Ext.refl _
    (try clear p0 p1 pf q0 q1 qf r0 r1 rf sz sz0 sz1); obtain ⟨⟨p0, p1, pf⟩, ⟨q0, q1, qf⟩, ⟨r0, r1, rf⟩, sz⟩ := MW5.out _ hx'; have sz1 := Nat.lt_of_succ_lt sz; have sz0 := Nat.lt_of_succ_lt sz1
    have wk : (kop 4 64 (kcut a 64) (kcut b 64)).wf := HWK.out
    go_wp2_with (first
      | (go_at_call 91; (with_reducible refine (kall_any _ _ (Ext.refl _)).mono ?_); rintro e w' ⟨rfl, hy⟩; have hx' := ((Ext.refl W5).alloc _).trans hy; (try clear p0 p1 pf q0 q1 qf r0 r1 rf sz sz0 sz1); obtain ⟨⟨p0, p1, pf⟩, ⟨q0, q1, qf⟩, ⟨r0, r1, rf⟩, sz⟩ := MW5.out _ hx'; have sz1 := Nat.lt_of_succ_lt sz; have sz0 := Nat.lt_of_succ_lt sz1; have D := Bk.new hy; have d : _ = some _ := D.cell 4; have dl := D.lt; clear D hy)
      | (go_at_call 120; (with_reducible refine (kor_any (kcut a 64) (kcut b 64) _ _ (Ext.refl _)).mono ?_); rintro e w' ⟨rfl, hy⟩; have hx5 := hx'; have hx' := (hx5.alloc _).trans hy; (try clear p0 p1 pf q0 q1 qf r0 r1 rf sz sz0 sz1); obtain ⟨⟨p0, p1, pf⟩, ⟨q0, q1, qf⟩, ⟨r0, r1, rf⟩, sz⟩ := MW5.out _ hx'; have sz1 := Nat.lt_of_succ_lt sz; have sz0 := Nat.lt_of_succ_lt sz1; have no := new1 hy; have NO := hide no.1; obtain ⟨⟨o0, o1, of⟩, so⟩ := no; have so' := Ext.size hx5; clear hy)
      | (go_at_call 117; refine (kkcut_any (kor (kcut a 64) (kcut b 64)) _ W5 _ (by with_reducible repeat (first | assumption | apply Ext.alloc | apply Ext.drew | (refine Ext.store1 ?_ (by omega) _))) wk).mono ?_; rintro e w' ⟨rfl, hx'⟩; (try clear p0 p1 pf q0 q1 qf r0 r1 rf sz sz0 sz1); obtain ⟨⟨p0, p1, pf⟩, ⟨q0, q1, qf⟩, ⟨r0, r1, rf⟩, sz⟩ := MW5.out _ hx'; have sz1 := Nat.lt_of_succ_lt sz; have sz0 := Nat.lt_of_succ_lt sz1)
      | fail)
    exact bodyPost_ret (by simp [results, Try.results86, go_sem, r0, r1, sz, Nat.ne_of_lt sz, Nat.ne_of_gt sz] <;> (first | exact ⟨rfl, rfl⟩ | rfl)) rfl ⟨rfl, by (refine hx.trans ?_; with_reducible repeat (first | assumption | exact xW5.trans hx' | apply Ext.alloc | apply Ext.drew | (refine Ext.store1 ?_ (by omega) _)))⟩

set_option maxRecDepth 100000 in
set_option maxHeartbeats 16000000 in
theorem kdo64_5 (a b : Kn) (W w : World) (hx : Ext W w) (ha : a.wf) (hb : b.wf) (h1 : kmay a = true) (h2 : kmay b = true) (hm : (bits .or .u64 (kcut a 64).m (kcut b 64).m == 0) = false) :
    Calls Try.prog 86 #[.int .i8 5, .int .i8 64, .agg #[.int .u64 a.v, .int .u64 a.m], .agg #[.int .u64 b.v, .int .u64 b.m]] w fun e w' => e = .returned (.agg #[.int .u64 (kcut (kop 5 64 (kcut a 64) (kcut b 64)) 64).v, .int .u64 (kcut (kop 5 64 (kcut a 64) (kcut b 64)) 64).m]) ∧ Ext W w' := by
  obtain ⟨W3, hW3⟩ : ∃ W3, W3 = (((w.alloc (.cells #[.int .u64 a.v, .int .u64 a.m] 50)).alloc (.cells #[.int .u64 b.v, .int .u64 b.m] 50)).alloc (.cells #[.int .u64 0, .int .u64 0] 50)) := ⟨_, rfl⟩
  have x3 : Ext w W3 := by rw [hW3]; exact ((((Ext.refl w).alloc _).alloc _).alloc _)
  have MK := hide (fun w' (h : Ext W3 w') => new3 (hW3 ▸ h))
  have hx' : Ext W3 W3 := Ext.refl _
  have wA := wf_kcut ha 64
  have wB := wf_kcut hb 64
  have HWA := hide wA
  have HWB := hide wB
  have HWK := hide (wf_kop wA wB 5 64)
  obtain ⟨⟨A1, A2⟩, A3, A4⟩ := wA
  clear wB
  go_enter Try.func86, Try.ntmps86
  go_wp2_with fail
  rw [← hW3]
  clear hW3
  (try clear p0 p1 pf q0 q1 qf r0 r1 rf sz sz0 sz1); obtain ⟨⟨p0, p1, pf⟩, ⟨q0, q1, qf⟩, ⟨r0, r1, rf⟩, sz⟩ := MK.out _ hx'; have sz1 := Nat.lt_of_succ_lt sz; have sz0 := Nat.lt_of_succ_lt sz1
  go_upto_region 3 with (first | (go_at_call 100; (with_reducible refine (kmay_any a W3 _ (by assumption)).mono ?_); rintro e w' ⟨rfl, hx'⟩; (try clear p0 p1 pf q0 q1 qf r0 r1 rf sz sz0 sz1); obtain ⟨⟨p0, p1, pf⟩, ⟨q0, q1, qf⟩, ⟨r0, r1, rf⟩, sz⟩ := MK.out _ hx'; have sz1 := Nat.lt_of_succ_lt sz; have sz0 := Nat.lt_of_succ_lt sz1) | (go_at_call 100; (with_reducible refine (kmay_any b W3 _ (by assumption)).mono ?_); rintro e w' ⟨rfl, hx'⟩; (try clear p0 p1 pf q0 q1 qf r0 r1 rf sz sz0 sz1); obtain ⟨⟨p0, p1, pf⟩, ⟨q0, q1, qf⟩, ⟨r0, r1, rf⟩, sz⟩ := MK.out _ hx'; have sz1 := Nat.lt_of_succ_lt sz; have sz0 := Nat.lt_of_succ_lt sz1) | fail)
  go_cut [44] (fun s44 wx => Hid ((C2 wx w.heap.size (.int .u64 (kcut a 64).v) (.int .u64 (kcut a 64).m) ∧ C2 wx (w.heap.size + 1) (.int .u64 (kcut b 64).v) (.int .u64 (kcut b 64).m) ∧ C2 wx (w.heap.size + 1 + 1) (.int .u64 0) (.int .u64 0) ∧ w.heap.size + 1 + 1 < wx.heap.size) ∧ Ext w wx))
  case first =>
    go_region_with (first
      | (go_at_call 117; (with_reducible refine (kkcut_any a _ W3 _ (by with_reducible first | assumption | exact hx'.drew) ha).mono ?_); rintro e w' ⟨rfl, hx'⟩; (try clear p0 p1 pf q0 q1 qf r0 r1 rf sz sz0 sz1); obtain ⟨⟨p0, p1, pf⟩, ⟨q0, q1, qf⟩, ⟨r0, r1, rf⟩, sz⟩ := MK.out _ hx'; have sz1 := Nat.lt_of_succ_lt sz; have sz0 := Nat.lt_of_succ_lt sz1)
      | (go_at_call 117; (with_reducible refine (kkcut_any b _ W3 _ (by with_reducible first | assumption | exact hx'.drew) hb).mono ?_); rintro e w' ⟨rfl, hx'⟩; (try clear p0 p1 pf q0 q1 qf r0 r1 rf sz sz0 sz1); obtain ⟨⟨p0, p1, pf⟩, ⟨q0, q1, qf⟩, ⟨r0, r1, rf⟩, sz⟩ := MK.out _ hx'; have sz1 := Nat.lt_of_succ_lt sz; have sz0 := Nat.lt_of_succ_lt sz1))
    all_goals
      go_wp2_with fail
      go_meet
      have c := MK.out _ hx'
      have e1 : w.heap.size ≠ w.heap.size + 1 := by omega
      have e2 : w.heap.size + 1 ≠ w.heap.size := by omega
      have e3 : w.heap.size ≠ w.heap.size + 1 + 1 := by omega
      have e4 : w.heap.size + 1 ≠ w.heap.size + 1 + 1 := by omega
      have xs := x3.trans hx'
      exact hide ⟨⟨(c.1.put _ _).off _ _ _ e2, (c.2.1.off _ _ _ e1).put _ _, (c.2.2.1.off _ _ _ e3).off _ _ _ e4, by simpa [World.setCell] using sz⟩, (xs.store2 (Nat.le_refl _) _ _).store2 (Nat.le_succ _) _ _⟩
  case rest =>
    obtain ⟨⟨c0, c1, c2, cs⟩, xW5⟩ := hcut.out
    clear hcut p0 p1 pf q0 q1 qf r0 r1 rf sz sz0 sz1 hx'
    obtain ⟨W5, hW5⟩ : ∃ W5, W5 = wc := ⟨_, rfl⟩
    rw [← hW5] at c0 c1 c2 cs xW5 ⊢
    clear hW5
    have MW5 := hide (fun w' (h : Ext W5 w') => And.intro (c0.ext h) (And.intro (c1.ext h) (And.intro (c2.ext h) (Nat.lt_of_lt_of_le cs h.size))))
    clear c0 c1 c2 cs
    have hx' : Ext W5 W5 := Ext.refl _
    (try clear p0 p1 pf q0 q1 qf r0 r1 rf sz sz0 sz1); obtain ⟨⟨p0, p1, pf⟩, ⟨q0, q1, qf⟩, ⟨r0, r1, rf⟩, sz⟩ := MW5.out _ hx'; have sz1 := Nat.lt_of_succ_lt sz; have sz0 := Nat.lt_of_succ_lt sz1
    have wk : (kop 5 64 (kcut a 64) (kcut b 64)).wf := HWK.out
    go_wp2_with (first
      | (go_at_call 91; (with_reducible refine (kall_any _ _ (Ext.refl _)).mono ?_); rintro e w' ⟨rfl, hy⟩; have hx' := ((Ext.refl W5).alloc _).trans hy; (try clear p0 p1 pf q0 q1 qf r0 r1 rf sz sz0 sz1); obtain ⟨⟨p0, p1, pf⟩, ⟨q0, q1, qf⟩, ⟨r0, r1, rf⟩, sz⟩ := MW5.out _ hx'; have sz1 := Nat.lt_of_succ_lt sz; have sz0 := Nat.lt_of_succ_lt sz1; have D := Bk.new hy; have d : _ = some _ := D.cell 5; have dl := D.lt; clear D hy)
      | (go_at_call 121; (with_reducible refine (kand_any (kcut a 64) (kcut b 64) _ _ (Ext.refl _)).mono ?_); rintro e w' ⟨rfl, hy⟩; have hx5 := hx'; have hx' := (hx5.alloc _).trans hy; (try clear p0 p1 pf q0 q1 qf r0 r1 rf sz sz0 sz1); obtain ⟨⟨p0, p1, pf⟩, ⟨q0, q1, qf⟩, ⟨r0, r1, rf⟩, sz⟩ := MW5.out _ hx'; have sz1 := Nat.lt_of_succ_lt sz; have sz0 := Nat.lt_of_succ_lt sz1; have no := new1 hy; have NO := hide no.1; obtain ⟨⟨o0, o1, of⟩, so⟩ := no; have so' := Ext.size hx5; clear hy)
      | (go_at_call 117; refine (kkcut_any (kand (kcut a 64) (kcut b 64)) _ W5 _ (by with_reducible repeat (first | assumption | apply Ext.alloc | apply Ext.drew | (refine Ext.store1 ?_ (by omega) _))) wk).mono ?_; rintro e w' ⟨rfl, hx'⟩; (try clear p0 p1 pf q0 q1 qf r0 r1 rf sz sz0 sz1); obtain ⟨⟨p0, p1, pf⟩, ⟨q0, q1, qf⟩, ⟨r0, r1, rf⟩, sz⟩ := MW5.out _ hx'; have sz1 := Nat.lt_of_succ_lt sz; have sz0 := Nat.lt_of_succ_lt sz1)
      | fail)
    exact bodyPost_ret (by simp [results, Try.results86, go_sem, r0, r1, sz, Nat.ne_of_lt sz, Nat.ne_of_gt sz] <;> (first | exact ⟨rfl, rfl⟩ | rfl)) rfl ⟨rfl, by (refine hx.trans ?_; with_reducible repeat (first | assumption | exact xW5.trans hx' | apply Ext.alloc | apply Ext.drew | (refine Ext.store1 ?_ (by omega) _)))⟩

set_option maxRecDepth 100000 in
set_option maxHeartbeats 16000000 in
theorem kdo64_7 (a b : Kn) (W w : World) (hx : Ext W w) (ha : a.wf) (hb : b.wf) (h1 : kmay a = true) (h2 : kmay b = true) (hm : (bits .or .u64 (kcut a 64).m (kcut b 64).m == 0) = false) :
    Calls Try.prog 86 #[.int .i8 7, .int .i8 64, .agg #[.int .u64 a.v, .int .u64 a.m], .agg #[.int .u64 b.v, .int .u64 b.m]] w fun e w' => e = .returned (.agg #[.int .u64 (kcut (kop 7 64 (kcut a 64) (kcut b 64)) 64).v, .int .u64 (kcut (kop 7 64 (kcut a 64) (kcut b 64)) 64).m]) ∧ Ext W w' := by
  obtain ⟨W3, hW3⟩ : ∃ W3, W3 = (((w.alloc (.cells #[.int .u64 a.v, .int .u64 a.m] 50)).alloc (.cells #[.int .u64 b.v, .int .u64 b.m] 50)).alloc (.cells #[.int .u64 0, .int .u64 0] 50)) := ⟨_, rfl⟩
  have x3 : Ext w W3 := by rw [hW3]; exact ((((Ext.refl w).alloc _).alloc _).alloc _)
  have MK := hide (fun w' (h : Ext W3 w') => new3 (hW3 ▸ h))
  have hx' : Ext W3 W3 := Ext.refl _
  have wA := wf_kcut ha 64
  have wB := wf_kcut hb 64
  have HWA := hide wA
  have HWB := hide wB
  have HWK := hide (wf_kop wA wB 7 64)
  obtain ⟨⟨A1, A2⟩, A3, A4⟩ := wA
  clear wB
  go_enter Try.func86, Try.ntmps86
  go_wp2_with fail
  rw [← hW3]
  clear hW3
  (try clear p0 p1 pf q0 q1 qf r0 r1 rf sz sz0 sz1); obtain ⟨⟨p0, p1, pf⟩, ⟨q0, q1, qf⟩, ⟨r0, r1, rf⟩, sz⟩ := MK.out _ hx'; have sz1 := Nat.lt_of_succ_lt sz; have sz0 := Nat.lt_of_succ_lt sz1
  go_upto_region 3 with (first | (go_at_call 100; (with_reducible refine (kmay_any a W3 _ (by assumption)).mono ?_); rintro e w' ⟨rfl, hx'⟩; (try clear p0 p1 pf q0 q1 qf r0 r1 rf sz sz0 sz1); obtain ⟨⟨p0, p1, pf⟩, ⟨q0, q1, qf⟩, ⟨r0, r1, rf⟩, sz⟩ := MK.out _ hx'; have sz1 := Nat.lt_of_succ_lt sz; have sz0 := Nat.lt_of_succ_lt sz1) | (go_at_call 100; (with_reducible refine (kmay_any b W3 _ (by assumption)).mono ?_); rintro e w' ⟨rfl, hx'⟩; (try clear p0 p1 pf q0 q1 qf r0 r1 rf sz sz0 sz1); obtain ⟨⟨p0, p1, pf⟩, ⟨q0, q1, qf⟩, ⟨r0, r1, rf⟩, sz⟩ := MK.out _ hx'; have sz1 := Nat.lt_of_succ_lt sz; have sz0 := Nat.lt_of_succ_lt sz1) | fail)
  go_cut [44] (fun s44 wx => Hid ((C2 wx w.heap.size (.int .u64 (kcut a 64).v) (.int .u64 (kcut a 64).m) ∧ C2 wx (w.heap.size + 1) (.int .u64 (kcut b 64).v) (.int .u64 (kcut b 64).m) ∧ C2 wx (w.heap.size + 1 + 1) (.int .u64 0) (.int .u64 0) ∧ w.heap.size + 1 + 1 < wx.heap.size) ∧ Ext w wx))
  case first =>
    go_region_with (first
      | (go_at_call 117; (with_reducible refine (kkcut_any a _ W3 _ (by with_reducible first | assumption | exact hx'.drew) ha).mono ?_); rintro e w' ⟨rfl, hx'⟩; (try clear p0 p1 pf q0 q1 qf r0 r1 rf sz sz0 sz1); obtain ⟨⟨p0, p1, pf⟩, ⟨q0, q1, qf⟩, ⟨r0, r1, rf⟩, sz⟩ := MK.out _ hx'; have sz1 := Nat.lt_of_succ_lt sz; have sz0 := Nat.lt_of_succ_lt sz1)
      | (go_at_call 117; (with_reducible refine (kkcut_any b _ W3 _ (by with_reducible first | assumption | exact hx'.drew) hb).mono ?_); rintro e w' ⟨rfl, hx'⟩; (try clear p0 p1 pf q0 q1 qf r0 r1 rf sz sz0 sz1); obtain ⟨⟨p0, p1, pf⟩, ⟨q0, q1, qf⟩, ⟨r0, r1, rf⟩, sz⟩ := MK.out _ hx'; have sz1 := Nat.lt_of_succ_lt sz; have sz0 := Nat.lt_of_succ_lt sz1))
    all_goals
      go_wp2_with fail
      go_meet
      have c := MK.out _ hx'
      have e1 : w.heap.size ≠ w.heap.size + 1 := by omega
      have e2 : w.heap.size + 1 ≠ w.heap.size := by omega
      have e3 : w.heap.size ≠ w.heap.size + 1 + 1 := by omega
      have e4 : w.heap.size + 1 ≠ w.heap.size + 1 + 1 := by omega
      have xs := x3.trans hx'
      exact hide ⟨⟨(c.1.put _ _).off _ _ _ e2, (c.2.1.off _ _ _ e1).put _ _, (c.2.2.1.off _ _ _ e3).off _ _ _ e4, by simpa [World.setCell] using sz⟩, (xs.store2 (Nat.le_refl _) _ _).store2 (Nat.le_succ _) _ _⟩
  case rest =>
    obtain ⟨⟨c0, c1, c2, cs⟩, xW5⟩ := hcut.out
    clear hcut p0 p1 pf q0 q1 qf r0 r1 rf sz sz0 sz1 hx'
    obtain ⟨W5, hW5⟩ : ∃ W5, W5 = wc := ⟨_, rfl⟩
    rw [← hW5] at c0 c1 c2 cs xW5 ⊢
    clear hW5
    have MW5 := hide (fun w' (h : Ext W5 w') => And.intro (c0.ext h) (And.intro (c1.ext h) (And.intro (c2.ext h) (Nat.lt_of_lt_of_le cs h.size))))
    clear c0 c1 c2 cs
    have hx' : Ext W5 W5 := Ext.refl _
    (try clear p0 p1 pf q0 q1 qf r0 r1 rf sz sz0 sz1); obtain ⟨⟨p0, p1, pf⟩, ⟨q0, q1, qf⟩, ⟨r0, r1, rf⟩, sz⟩ := MW5.out _ hx'; have sz1 := Nat.lt_of_succ_lt sz; have sz0 := Nat.lt_of_succ_lt sz1
    rcases Bool.eq_false_or_eq_true (bits .and .u64 (kcut b 64).m (64 - 1) == 0) with hs | hs
    · have HK : Hid (kop 7 64 (kcut a 64) (kcut b 64) = (kshift 7 64 (kcut a 64) (kcut b 64))) := hide (by (have hs' : bits .and .u64 (kcut b 64).m 63 = 0 := (by simpa using hs)); simp [kop, hs'])
      have hs2 : (bits .and .u64 (kcut b 64).m 63 == 0) = true := by simpa using hs
      have wk : (kshift 7 64 (kcut a 64) (kcut b 64)).wf := by (have h := HWK.out; rw [HK.out] at h; exact h)
      clear hs
      have tok : True := trivial
      go_wp2_with (first
        | (go_at_call 91; (with_reducible refine (kall_any _ _ (Ext.refl _)).mono ?_); rintro e w' ⟨rfl, hy⟩; have hx' := ((Ext.refl W5).alloc _).trans hy; (try clear p0 p1 pf q0 q1 qf r0 r1 rf sz sz0 sz1); obtain ⟨⟨p0, p1, pf⟩, ⟨q0, q1, qf⟩, ⟨r0, r1, rf⟩, sz⟩ := MW5.out _ hx'; have sz1 := Nat.lt_of_succ_lt sz; have sz0 := Nat.lt_of_succ_lt sz1; have D := Bk.new hy; have d : _ = some _ := D.cell 7; have dl := D.lt; clear D hy)
        | (go_at_call 38; (with_reducible refine (do_any _ _ _ _ _ (by assumption) (by assumption) (and_bd _ _).1 (and_bd _ _).2 (by decide) (by decide) (by first | exact zlong32 | exact zlong64)).mono ?_); clear tok; rintro e w' ⟨rfl, hy⟩; have hx5 := hx'; have hx' := (hx5.alloc _).trans hy; (try clear p0 p1 pf q0 q1 qf r0 r1 rf sz sz0 sz1); obtain ⟨⟨p0, p1, pf⟩, ⟨q0, q1, qf⟩, ⟨r0, r1, rf⟩, sz⟩ := MW5.out _ hx'; have sz1 := Nat.lt_of_succ_lt sz; have sz0 := Nat.lt_of_succ_lt sz1; have no := new1 hy; have NO := hide no.1; obtain ⟨⟨o0, o1, of⟩, so⟩ := no; have so' := Ext.size hx5; clear hy)
        | (go_at_call 38; (with_reducible refine (do_any _ _ _ _ _ (by assumption) (by assumption) (and_bd _ _).1 (and_bd _ _).2 (by decide) (by decide) (by first | exact zlong32 | exact zlong64)).mono ?_); rintro e w8 ⟨rfl, hy⟩; have hx6 := hx'; have hx' := hx6.trans hy; (try clear p0 p1 pf q0 q1 qf r0 r1 rf sz sz0 sz1); obtain ⟨⟨p0, p1, pf⟩, ⟨q0, q1, qf⟩, ⟨r0, r1, rf⟩, sz⟩ := MW5.out _ hx'; have sz1 := Nat.lt_of_succ_lt sz; have sz0 := Nat.lt_of_succ_lt sz1; have no := NO.out.ext hy; have NO2 := hide no; have so2 := no.lt; clear o0 o1 of; obtain ⟨o0, o1, of⟩ := no; clear hy)
        | (go_at_call 125; (with_reducible refine (kmasked_any _ _ _ _ (Ext.refl _)).mono ?_); rintro e w9 ⟨rfl, hy⟩; have hx7 := hx'; have hx' := hx7.trans hy; (try clear p0 p1 pf q0 q1 qf r0 r1 rf sz sz0 sz1); obtain ⟨⟨p0, p1, pf⟩, ⟨q0, q1, qf⟩, ⟨r0, r1, rf⟩, sz⟩ := MW5.out _ hx'; have sz1 := Nat.lt_of_succ_lt sz; have sz0 := Nat.lt_of_succ_lt sz1; have no := NO2.out.ext hy; have so3 := no.lt; clear o0 o1 of; obtain ⟨o0, o1, of⟩ := no; clear hy)
        | (go_at_call 117; refine (kkcut_any (kshift 7 64 (kcut a 64) (kcut b 64)) _ W5 _ (by with_reducible repeat (first | assumption | apply Ext.alloc | apply Ext.drew | (refine Ext.store1 ?_ (by omega) _))) wk).mono ?_; rintro e w' ⟨rfl, hx'⟩; (try clear p0 p1 pf q0 q1 qf r0 r1 rf sz sz0 sz1); obtain ⟨⟨p0, p1, pf⟩, ⟨q0, q1, qf⟩, ⟨r0, r1, rf⟩, sz⟩ := MW5.out _ hx'; have sz1 := Nat.lt_of_succ_lt sz; have sz0 := Nat.lt_of_succ_lt sz1)
        | fail)
      rw [HK.out]
      exact bodyPost_ret (by simp [results, Try.results86, go_sem, r0, r1, sz, Nat.ne_of_lt sz, Nat.ne_of_gt sz] <;> (first | exact ⟨rfl, rfl⟩ | rfl)) rfl ⟨rfl, by (refine hx.trans ?_; with_reducible repeat (first | assumption | exact xW5.trans hx' | apply Ext.alloc | apply Ext.drew | (refine Ext.store1 ?_ (by omega) _)))⟩
    · have HK : Hid (kop 7 64 (kcut a 64) (kcut b 64) = kall) := hide (by (have hs' : ¬ bits .and .u64 (kcut b 64).m 63 = 0 := (by simpa using hs)); simp [kop, hs'])
      have hs2 : (bits .and .u64 (kcut b 64).m 63 == 0) = false := by simpa using hs
      clear hs
      go_wp2_with (first
        | (go_at_call 91; (with_reducible refine (kall_any _ _ (Ext.refl _)).mono ?_); rintro e w' ⟨rfl, hy⟩; have hx' := ((Ext.refl W5).alloc _).trans hy; (try clear p0 p1 pf q0 q1 qf r0 r1 rf sz sz0 sz1); obtain ⟨⟨p0, p1, pf⟩, ⟨q0, q1, qf⟩, ⟨r0, r1, rf⟩, sz⟩ := MW5.out _ hx'; have sz1 := Nat.lt_of_succ_lt sz; have sz0 := Nat.lt_of_succ_lt sz1; have D := Bk.new hy; have d : _ = some _ := D.cell 7; have dl := D.lt; clear D hy)
        | (go_at_call 117; refine (kkcut_any kall _ W5 _ (by with_reducible repeat (first | assumption | apply Ext.alloc | apply Ext.drew | (refine Ext.store1 ?_ (by omega) _))) wf_kall).mono ?_; rintro e w' ⟨rfl, hx'⟩; (try clear p0 p1 pf q0 q1 qf r0 r1 rf sz sz0 sz1); obtain ⟨⟨p0, p1, pf⟩, ⟨q0, q1, qf⟩, ⟨r0, r1, rf⟩, sz⟩ := MW5.out _ hx'; have sz1 := Nat.lt_of_succ_lt sz; have sz0 := Nat.lt_of_succ_lt sz1)
        | fail)
      rw [HK.out]
      exact bodyPost_ret (by simp [results, Try.results86, go_sem, r0, r1, sz, Nat.ne_of_lt sz, Nat.ne_of_gt sz] <;> (first | exact ⟨rfl, rfl⟩ | rfl)) rfl ⟨rfl, by (refine hx.trans ?_; with_reducible repeat (first | assumption | exact xW5.trans hx' | apply Ext.alloc | apply Ext.drew | (refine Ext.store1 ?_ (by omega) _)))⟩
end Go.Proofs.Ytcngfmhhaleoaaa
