/- The walk of known.Do. -/
import Derived.Test.YtcngfmhhaleoaaaKnV32a
import Derived.Test.YtcngfmhhaleoaaaKnV32b
import Derived.Test.YtcngfmhhaleoaaaKnV32c
import Derived.Test.YtcngfmhhaleoaaaKnV64a
import Derived.Test.YtcngfmhhaleoaaaKnV64b
import Derived.Test.YtcngfmhhaleoaaaKnV64c
import Derived.Deep.RegionHeld3
import Derived.Deep.RegionWith
import Derived.Deep.DeepCutAuto
set_option linter.unusedVariables false
set_option linter.unusedSimpArgs false
namespace Go.Proofs.Ytcngfmhhaleoaaa
open Go.RowKit

theorem kdo_more32 (op : Int) (a b : Kn) (W w : World) (hx : Ext W w) (ha : a.wf) (hb : b.wf) (h1 : kmay a = true) (h2 : kmay b = true) (h3 : 0 ≤ op) (h4 : op ≤ 12) (hm : (bits .or .u64 (kcut a 32).m (kcut b 32).m == 0) = false) :
    Calls Try.prog 86 #[.int .i8 op, .int .i8 32, .agg #[.int .u64 a.v, .int .u64 a.m], .agg #[.int .u64 b.v, .int .u64 b.m]] w fun e w' => e = .returned (.agg #[.int .u64 (kcut (kop op 32 (kcut a 32) (kcut b 32)) 32).v, .int .u64 (kcut (kop op 32 (kcut a 32) (kcut b 32)) 32).m]) ∧ Ext W w' := by
  rcases op_cases h3 h4 with rfl | rfl | rfl | rfl | rfl | rfl | rfl | rfl | rfl | rfl | rfl | rfl | rfl
  · exact kdo32_0 a b W w hx ha hb h1 h2 hm
  · exact kdo32_1 a b W w hx ha hb h1 h2 hm
  · exact kdo32_2 a b W w hx ha hb h1 h2 hm
  · exact kdo32_3 a b W w hx ha hb h1 h2 hm
  · exact kdo32_4 a b W w hx ha hb h1 h2 hm
  · exact kdo32_5 a b W w hx ha hb h1 h2 hm
  · exact kdo32_6 a b W w hx ha hb h1 h2 hm
  · exact kdo32_7 a b W w hx ha hb h1 h2 hm
  · exact kdo32_8 a b W w hx ha hb h1 h2 hm
  · exact kdo32_9 a b W w hx ha hb h1 h2 hm
  · exact kdo32_10 a b W w hx ha hb h1 h2 hm
  · exact kdo32_11 a b W w hx ha hb h1 h2 hm
  · exact kdo32_12 a b W w hx ha hb h1 h2 hm

theorem kdo_more64 (op : Int) (a b : Kn) (W w : World) (hx : Ext W w) (ha : a.wf) (hb : b.wf) (h1 : kmay a = true) (h2 : kmay b = true) (h3 : 0 ≤ op) (h4 : op ≤ 12) (hm : (bits .or .u64 (kcut a 64).m (kcut b 64).m == 0) = false) :
    Calls Try.prog 86 #[.int .i8 op, .int .i8 64, .agg #[.int .u64 a.v, .int .u64 a.m], .agg #[.int .u64 b.v, .int .u64 b.m]] w fun e w' => e = .returned (.agg #[.int .u64 (kcut (kop op 64 (kcut a 64) (kcut b 64)) 64).v, .int .u64 (kcut (kop op 64 (kcut a 64) (kcut b 64)) 64).m]) ∧ Ext W w' := by
  rcases op_cases h3 h4 with rfl | rfl | rfl | rfl | rfl | rfl | rfl | rfl | rfl | rfl | rfl | rfl | rfl
  · exact kdo64_0 a b W w hx ha hb h1 h2 hm
  · exact kdo64_1 a b W w hx ha hb h1 h2 hm
  · exact kdo64_2 a b W w hx ha hb h1 h2 hm
  · exact kdo64_3 a b W w hx ha hb h1 h2 hm
  · exact kdo64_4 a b W w hx ha hb h1 h2 hm
  · exact kdo64_5 a b W w hx ha hb h1 h2 hm
  · exact kdo64_6 a b W w hx ha hb h1 h2 hm
  · exact kdo64_7 a b W w hx ha hb h1 h2 hm
  · exact kdo64_8 a b W w hx ha hb h1 h2 hm
  · exact kdo64_9 a b W w hx ha hb h1 h2 hm
  · exact kdo64_10 a b W w hx ha hb h1 h2 hm
  · exact kdo64_11 a b W w hx ha hb h1 h2 hm
  · exact kdo64_12 a b W w hx ha hb h1 h2 hm

set_option maxRecDepth 100000 in
set_option maxHeartbeats 32000000 in
theorem kdo_any (op w1 : Int) (a b : Kn) (W w : World) (hx : Ext W w) (ha : a.wf) (hb : b.wf) :
    Calls Try.prog 86 #[.int .i8 op, .int .i8 w1, .agg #[.int .u64 a.v, .int .u64 a.m], .agg #[.int .u64 b.v, .int .u64 b.m]] w fun e w' => e = .returned (.agg #[.int .u64 (kdo op w1 a b).v, .int .u64 (kdo op w1 a b).m]) ∧ Ext W w' := by
  obtain ⟨W3, hW3⟩ : ∃ W3, W3 = (((w.alloc (.cells #[.int .u64 a.v, .int .u64 a.m] 50)).alloc (.cells #[.int .u64 b.v, .int .u64 b.m] 50)).alloc (.cells #[.int .u64 0, .int .u64 0] 50)) := ⟨_, rfl⟩
  have x3 : Ext w W3 := by rw [hW3]; exact ((((Ext.refl w).alloc _).alloc _).alloc _)
  have MK := hide (fun w' (h : Ext W3 w') => new3 (hW3 ▸ h))
  have hx' : Ext W3 W3 := Ext.refl _
  have hg : kgood op w1 a b = false ∨ (kgood op w1 a b = true ∧ kmay a = true ∧ kmay b = true ∧ 0 ≤ op ∧ op ≤ 12 ∧ (w1 = 32 ∨ w1 = 64)) := by
    cases h : kgood op w1 a b
    · exact .inl rfl
    · refine .inr ⟨rfl, ?_⟩
      simp only [kgood, Bool.and_eq_true, decide_eq_true_eq] at h
      exact ⟨h.1, h.2.1, h.2.2.1, h.2.2.2.1, zlong_cases h.2.2.2.2⟩
  rcases hg with hg | ⟨hg, h1, h2, h3, h4, hw⟩
  · have hz : kdo op w1 a b = kall := by simp [kdo, hg]
    rw [hz]
    clear hz
    have hc : kmay a = false ∨ (kmay a = true ∧ kmay b = false) ∨ (kmay a = true ∧ kmay b = true ∧ op < 0) ∨ (kmay a = true ∧ kmay b = true ∧ 0 ≤ op ∧ 12 < op) ∨ (kmay a = true ∧ kmay b = true ∧ 0 ≤ op ∧ op ≤ 12 ∧ (w1 != 32) = true ∧ (w1 != 64) = true) := by
      cases g1 : kmay a
      · exact .inl rfl
      · cases g2 : kmay b
        · exact .inr (.inl ⟨rfl, rfl⟩)
        · by_cases g3 : op < 0
          · exact .inr (.inr (.inl ⟨rfl, rfl, g3⟩))
          · by_cases g4 : 12 < op
            · exact .inr (.inr (.inr (.inl ⟨rfl, rfl, by omega, g4⟩)))
            · refine .inr (.inr (.inr (.inr ⟨rfl, rfl, by omega, by omega, ?_⟩)))
              simpa [kgood, g1, g2, zlong, show 0 ≤ op from by omega, show op ≤ 12 from by omega] using hg
    clear hg
    rcases hc with h1 | ⟨h1, h2⟩ | ⟨h1, h2, h3⟩ | ⟨h1, h2, h3, h4⟩ | ⟨h1, h2, h3, h4, h5, h6⟩
    all_goals
      go_enter Try.func86, Try.ntmps86
      go_wp2_with fail
      rw [← hW3]
      clear hW3
      (try clear p0 p1 pf q0 q1 qf r0 r1 rf sz sz0 sz1); obtain ⟨⟨p0, p1, pf⟩, ⟨q0, q1, qf⟩, ⟨r0, r1, rf⟩, sz⟩ := MK.out _ hx'; have sz1 := Nat.lt_of_succ_lt sz; have sz0 := Nat.lt_of_succ_lt sz1
      go_wp2_with (first
        | (go_at_call 100; (with_reducible refine (kmay_any a W3 _ (by assumption)).mono ?_); rintro e w' ⟨rfl, hx'⟩; (try clear p0 p1 pf q0 q1 qf r0 r1 rf sz sz0 sz1); obtain ⟨⟨p0, p1, pf⟩, ⟨q0, q1, qf⟩, ⟨r0, r1, rf⟩, sz⟩ := MK.out _ hx'; have sz1 := Nat.lt_of_succ_lt sz; have sz0 := Nat.lt_of_succ_lt sz1)
        | (go_at_call 100; (with_reducible refine (kmay_any b W3 _ (by assumption)).mono ?_); rintro e w' ⟨rfl, hx'⟩; (try clear p0 p1 pf q0 q1 qf r0 r1 rf sz sz0 sz1); obtain ⟨⟨p0, p1, pf⟩, ⟨q0, q1, qf⟩, ⟨r0, r1, rf⟩, sz⟩ := MK.out _ hx'; have sz1 := Nat.lt_of_succ_lt sz; have sz0 := Nat.lt_of_succ_lt sz1)
        | (go_at_call 91; (with_reducible refine (kall_any  W3 _ (by assumption)).mono ?_); rintro e w' ⟨rfl, hx'⟩; (try clear p0 p1 pf q0 q1 qf r0 r1 rf sz sz0 sz1); obtain ⟨⟨p0, p1, pf⟩, ⟨q0, q1, qf⟩, ⟨r0, r1, rf⟩, sz⟩ := MK.out _ hx'; have sz1 := Nat.lt_of_succ_lt sz; have sz0 := Nat.lt_of_succ_lt sz1)
        | fail)
      exact bodyPost_ret (by simp [results, Try.results86, go_sem, r0, r1, sz, Nat.ne_of_lt sz, Nat.ne_of_gt sz] <;> (first | exact ⟨rfl, rfl⟩ | rfl)) rfl ⟨rfl, by (refine hx.trans ?_; with_reducible repeat (first | assumption | exact x3.trans hx' | apply Ext.alloc | apply Ext.drew | (refine Ext.store1 ?_ (by omega) _)))⟩
  · rcases Bool.eq_false_or_eq_true (bits .or .u64 (kcut a w1).m (kcut b w1).m == 0) with hm | hm
    · have hz : kdo op w1 a b = kone (zdo op w1 (kcut a w1).v (kcut b w1).v) := by rw [kdo, if_pos hg, if_pos hm]
      rw [hz]
      clear hz hg
      have wA := wf_kcut ha w1
      have wB := wf_kcut hb w1
      obtain ⟨⟨A1, A2⟩, A3, A4⟩ := wA
      obtain ⟨⟨B1, B2⟩, B3, B4⟩ := wB
      rcases hw with rfl | rfl
      · go_enter Try.func86, Try.ntmps86
        go_wp2_with fail
        rw [← hW3]
        clear hW3
        (try clear p0 p1 pf q0 q1 qf r0 r1 rf sz sz0 sz1); obtain ⟨⟨p0, p1, pf⟩, ⟨q0, q1, qf⟩, ⟨r0, r1, rf⟩, sz⟩ := MK.out _ hx'; have sz1 := Nat.lt_of_succ_lt sz; have sz0 := Nat.lt_of_succ_lt sz1
        go_upto_region 3 with (first | (go_at_call 100; (with_reducible refine (kmay_any a W3 _ (by assumption)).mono ?_); rintro e w' ⟨rfl, hx'⟩; (try clear p0 p1 pf q0 q1 qf r0 r1 rf sz sz0 sz1); obtain ⟨⟨p0, p1, pf⟩, ⟨q0, q1, qf⟩, ⟨r0, r1, rf⟩, sz⟩ := MK.out _ hx'; have sz1 := Nat.lt_of_succ_lt sz; have sz0 := Nat.lt_of_succ_lt sz1) | (go_at_call 100; (with_reducible refine (kmay_any b W3 _ (by assumption)).mono ?_); rintro e w' ⟨rfl, hx'⟩; (try clear p0 p1 pf q0 q1 qf r0 r1 rf sz sz0 sz1); obtain ⟨⟨p0, p1, pf⟩, ⟨q0, q1, qf⟩, ⟨r0, r1, rf⟩, sz⟩ := MK.out _ hx'; have sz1 := Nat.lt_of_succ_lt sz; have sz0 := Nat.lt_of_succ_lt sz1) | fail)
        go_cut [44] (fun s44 wx => Hid ((C2 wx w.heap.size (.int .u64 (kcut a 32).v) (.int .u64 (kcut a 32).m) ∧ C2 wx (w.heap.size + 1) (.int .u64 (kcut b 32).v) (.int .u64 (kcut b 32).m) ∧ C2 wx (w.heap.size + 1 + 1) (.int .u64 0) (.int .u64 0) ∧ w.heap.size + 1 + 1 < wx.heap.size) ∧ Ext w wx))
        case first =>
          go_region_with (first
            | (go_at_call 117; (with_reducible refine (kkcut_any a _ W3 _ (by with_reducible first | assumption | exact hx'.drew) ha).mono ?_); rintro e w' ⟨rfl, hx'⟩; (try clear p0 p1 pf q0 q1 qf r0 r1 rf sz sz0 sz1); obtain ⟨⟨p0, p1, pf⟩, ⟨q0, q1, qf⟩, ⟨r0, r1, rf⟩, sz⟩ := MK.out _ hx'; have sz1 := Nat.lt_of_succ_lt sz; have sz0 := Nat.lt_of_succ_lt sz1)
            | (go_at_call 117; (with_reducible refine (kkcut_any b _ W3 _ (by with_reducible first | assumption | exact hx'.drew) hb).mono ?_); rintro e w' ⟨rfl, hx'⟩; (try clear p0 p1 pf q0 q1 qf r0 r1 rf sz sz0 sz1); obtain ⟨⟨p0, p1, pf⟩, ⟨q0, q1, qf⟩, ⟨r0, r1, rf⟩, sz⟩ := MK.out _ hx'; have sz1 := Nat.lt_of_succ_lt sz; have sz0 := Nat.lt_of_succ_lt sz1))
          all_goals
            go_wp2_with fail
            go_meet
            have c := MK.out _ hx'
            have e1 : w.heap.size ≠ w.heap.size + 1 := by omega
            have e2 : w.heap.size + 1 ≠ w.heap.size := by omega
            have e3 : w.heap.size ≠ w.heap.size + 1 + 1 := by omega
            have e4 : w.heap.size + 1 ≠ w.heap.size + 1 + 1 := by omega
            have xs := x3.trans hx'
            exact hide ⟨⟨(c.1.put _ _).off _ _ _ e2, (c.2.1.off _ _ _ e1).put _ _, (c.2.2.1.off _ _ _ e3).off _ _ _ e4, by simpa [World.setCell] using sz⟩, (xs.store2 (Nat.le_refl _) _ _).store2 (Nat.le_succ _) _ _⟩
        case rest =>
          obtain ⟨⟨c0, c1, c2, cs⟩, xW5⟩ := hcut.out
          clear hcut p0 p1 pf q0 q1 qf r0 r1 rf sz sz0 sz1 hx'
          obtain ⟨W5, hW5⟩ : ∃ W5, W5 = wc := ⟨_, rfl⟩
          rw [← hW5] at c0 c1 c2 cs xW5 ⊢
          clear hW5
          have MW5 := hide (fun w' (h : Ext W5 w') => And.intro (c0.ext h) (And.intro (c1.ext h) (And.intro (c2.ext h) (Nat.lt_of_lt_of_le cs h.size))))
          clear c0 c1 c2 cs
          have hx' : Ext W5 W5 := Ext.refl _
          (try clear p0 p1 pf q0 q1 qf r0 r1 rf sz sz0 sz1); obtain ⟨⟨p0, p1, pf⟩, ⟨q0, q1, qf⟩, ⟨r0, r1, rf⟩, sz⟩ := MW5.out _ hx'; have sz1 := Nat.lt_of_succ_lt sz; have sz0 := Nat.lt_of_succ_lt sz1
          go_wp2_with (first
            | (go_at_call 38; (with_reducible refine (do_any _ _ _ _ _ (by assumption) (by assumption) (by assumption) (by assumption) h3 h4 (by first | exact zlong32 | exact zlong64)).mono ?_); rintro e w' ⟨rfl, hy⟩; have hx' : Ext W5 w' := hy; clear hy; (try clear p0 p1 pf q0 q1 qf r0 r1 rf sz sz0 sz1); obtain ⟨⟨p0, p1, pf⟩, ⟨q0, q1, qf⟩, ⟨r0, r1, rf⟩, sz⟩ := MW5.out _ hx'; have sz1 := Nat.lt_of_succ_lt sz; have sz0 := Nat.lt_of_succ_lt sz1)
            | (go_at_call 90; (with_reducible refine (kone_any _ W5 _ (by assumption)).mono ?_); rintro e w' ⟨rfl, hx'⟩; (try clear p0 p1 pf q0 q1 qf r0 r1 rf sz sz0 sz1); obtain ⟨⟨p0, p1, pf⟩, ⟨q0, q1, qf⟩, ⟨r0, r1, rf⟩, sz⟩ := MW5.out _ hx'; have sz1 := Nat.lt_of_succ_lt sz; have sz0 := Nat.lt_of_succ_lt sz1)
            | fail)
          exact bodyPost_ret (by simp [results, Try.results86, go_sem, r0, r1, sz, Nat.ne_of_lt sz, Nat.ne_of_gt sz] <;> (first | exact ⟨rfl, rfl⟩ | rfl)) rfl ⟨rfl, by (refine hx.trans ?_; with_reducible repeat (first | assumption | exact xW5.trans hx' | apply Ext.alloc | apply Ext.drew | (refine Ext.store1 ?_ (by omega) _)))⟩
      · go_enter Try.func86, Try.ntmps86
        go_wp2_with fail
        rw [← hW3]
        clear hW3
        (try clear p0 p1 pf q0 q1 qf r0 r1 rf sz sz0 sz1); obtain ⟨⟨p0, p1, pf⟩, ⟨q0, q1, qf⟩, ⟨r0, r1, rf⟩, sz⟩ := MK.out _ hx'; have sz1 := Nat.lt_of_succ_lt sz; have sz0 := Nat.lt_of_succ_lt sz1
        go_upto_region 3 with (first | (go_at_call 100; (with_reducible refine (kmay_any a W3 _ (by assumption)).mono ?_); rintro e w' ⟨rfl, hx'⟩; (try clear p0 p1 pf q0 q1 qf r0 r1 rf sz sz0 sz1); obtain ⟨⟨p0, p1, pf⟩, ⟨q0, q1, qf⟩, ⟨r0, r1, rf⟩, sz⟩ := MK.out _ hx'; have sz1 := Nat.lt_of_succ_lt sz; have sz0 := Nat.lt_of_succ_lt sz1) | (go_at_call 100; (with_reducible refine (kmay_any b W3 _ (by assumption)).mono ?_); rintro e w' ⟨rfl, hx'⟩; (try clear p0 p1 pf q0 q1 qf r0 r1 rf sz sz0 sz1); obtain ⟨⟨p0, p1, pf⟩, ⟨q0, q1, qf⟩, ⟨r0, r1, rf⟩, sz⟩ := MK.out _ hx'; have sz1 := Nat.lt_of_succ_lt sz; have sz0 := Nat.lt_of_succ_lt sz1) | fail)
        go_cut [44] (fun s44 wx => Hid ((C2 wx w.heap.size (.int .u64 (kcut a 64).v) (.int .u64 (kcut a 64).m) ∧ C2 wx (w.heap.size + 1) (.int .u64 (kcut b 64).v) (.int .u64 (kcut b 64).m) ∧ C2 wx (w.heap.size + 1 + 1) (.int .u64 0) (.int .u64 0) ∧ w.heap.size + 1 + 1 < wx.heap.size) ∧ Ext w wx))
        case first =>
          go_region_with (first
            | (go_at_call 117; (with_reducible refine (kkcut_any a _ W3 _ (by with_reducible first | assumption | exact hx'.drew) ha).mono ?_); rintro e w' ⟨rfl, hx'⟩; (try clear p0 p1 pf q0 q1 qf r0 r1 rf sz sz0 sz1); obtain ⟨⟨p0, p1, pf⟩, ⟨q0, q1, qf⟩, ⟨r0, r1, rf⟩, sz⟩ := MK.out _ hx'; have sz1 := Nat.lt_of_succ_lt sz; have sz0 := Nat.lt_of_succ_lt sz1)
            | (go_at_call 117; (with_reducible refine (kkcut_any b _ W3 _ (by with_reducible first | assumption | exact hx'.drew) hb).mono ?_); rintro e w' ⟨rfl, hx'⟩; (try clear p0 p1 pf q0 q1 qf r0 r1 rf sz sz0 sz1); obtain ⟨⟨p0, p1, pf⟩, ⟨q0, q1, qf⟩, ⟨r0, r1, rf⟩, sz⟩ := MK.out _ hx'; have sz1 := Nat.lt_of_succ_lt sz; have sz0 := Nat.lt_of_succ_lt sz1))
          all_goals
            go_wp2_with fail
            go_meet
            have c := MK.out _ hx'
            have e1 : w.heap.size ≠ w.heap.size + 1 := by omega
            have e2 : w.heap.size + 1 ≠ w.heap.size := by omega
            have e3 : w.heap.size ≠ w.heap.size + 1 + 1 := by omega
            have e4 : w.heap.size + 1 ≠ w.heap.size + 1 + 1 := by omega
            have xs := x3.trans hx'
            exact hide ⟨⟨(c.1.put _ _).off _ _ _ e2, (c.2.1.off _ _ _ e1).put _ _, (c.2.2.1.off _ _ _ e3).off _ _ _ e4, by simpa [World.setCell] using sz⟩, (xs.store2 (Nat.le_refl _) _ _).store2 (Nat.le_succ _) _ _⟩
        case rest =>
          obtain ⟨⟨c0, c1, c2, cs⟩, xW5⟩ := hcut.out
          clear hcut p0 p1 pf q0 q1 qf r0 r1 rf sz sz0 sz1 hx'
          obtain ⟨W5, hW5⟩ : ∃ W5, W5 = wc := ⟨_, rfl⟩
          rw [← hW5] at c0 c1 c2 cs xW5 ⊢
          clear hW5
          have MW5 := hide (fun w' (h : Ext W5 w') => And.intro (c0.ext h) (And.intro (c1.ext h) (And.intro (c2.ext h) (Nat.lt_of_lt_of_le cs h.size))))
          clear c0 c1 c2 cs
          have hx' : Ext W5 W5 := Ext.refl _
          (try clear p0 p1 pf q0 q1 qf r0 r1 rf sz sz0 sz1); obtain ⟨⟨p0, p1, pf⟩, ⟨q0, q1, qf⟩, ⟨r0, r1, rf⟩, sz⟩ := MW5.out _ hx'; have sz1 := Nat.lt_of_succ_lt sz; have sz0 := Nat.lt_of_succ_lt sz1
          go_wp2_with (first
            | (go_at_call 38; (with_reducible refine (do_any _ _ _ _ _ (by assumption) (by assumption) (by assumption) (by assumption) h3 h4 (by first | exact zlong32 | exact zlong64)).mono ?_); rintro e w' ⟨rfl, hy⟩; have hx' : Ext W5 w' := hy; clear hy; (try clear p0 p1 pf q0 q1 qf r0 r1 rf sz sz0 sz1); obtain ⟨⟨p0, p1, pf⟩, ⟨q0, q1, qf⟩, ⟨r0, r1, rf⟩, sz⟩ := MW5.out _ hx'; have sz1 := Nat.lt_of_succ_lt sz; have sz0 := Nat.lt_of_succ_lt sz1)
            | (go_at_call 90; (with_reducible refine (kone_any _ W5 _ (by assumption)).mono ?_); rintro e w' ⟨rfl, hx'⟩; (try clear p0 p1 pf q0 q1 qf r0 r1 rf sz sz0 sz1); obtain ⟨⟨p0, p1, pf⟩, ⟨q0, q1, qf⟩, ⟨r0, r1, rf⟩, sz⟩ := MW5.out _ hx'; have sz1 := Nat.lt_of_succ_lt sz; have sz0 := Nat.lt_of_succ_lt sz1)
            | fail)
          exact bodyPost_ret (by simp [results, Try.results86, go_sem, r0, r1, sz, Nat.ne_of_lt sz, Nat.ne_of_gt sz] <;> (first | exact ⟨rfl, rfl⟩ | rfl)) rfl ⟨rfl, by (refine hx.trans ?_; with_reducible repeat (first | assumption | exact xW5.trans hx' | apply Ext.alloc | apply Ext.drew | (refine Ext.store1 ?_ (by omega) _)))⟩
    · have hz : kdo op w1 a b = kcut (kop op w1 (kcut a w1) (kcut b w1)) w1 := by
        rw [kdo, if_pos hg, if_neg (by rw [hm]; simp)]
      rw [hz]
      clear hz hg
      rcases hw with rfl | rfl
      · exact kdo_more32 op a b W w hx ha hb h1 h2 h3 h4 hm
      · exact kdo_more64 op a b W w hx ha hb h1 h2 h3 h4 hm
end Go.Proofs.Ytcngfmhhaleoaaa
