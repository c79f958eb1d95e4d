/- The walk of the reference's Do. -/
import Derived.Test.YtkoiaadhbgccaaaKnU32
import Derived.Test.YtkoiaadhbgccaaaKnU64
import Derived.Deep.RegionHeld3
import Derived.Deep.RegionWith
set_option linter.unusedVariables false
set_option linter.unusedSimpArgs false
namespace Go.Proofs.Ytkoiaadhbgccaaa
open Go.RowKit

set_option maxRecDepth 100000 in
set_option maxHeartbeats 16000000 in
theorem rkdo_any (op w1 : Int) (a b : Kn) (W w : World) (hx : Ext W w) (ha : a.wf) (hb : b.wf) :
    Calls Try.prog 25 #[.int .i8 op, .int .i8 w1, .agg #[.int .u64 a.v, .int .u64 a.m], .agg #[.int .u64 b.v, .int .u64 b.m]] w fun e w' => e = .returned (.agg #[.int .u64 (kdo op w1 a b).v, .int .u64 (kdo op w1 a b).m]) ∧ Ext W w' := by
  obtain ⟨W3, hW3⟩ : ∃ W3, W3 = (((w.alloc (.cells #[.int .u64 a.v, .int .u64 a.m] 48)).alloc (.cells #[.int .u64 b.v, .int .u64 b.m] 48)).alloc (.cells #[.int .u64 0, .int .u64 0] 48)) := ⟨_, rfl⟩
  have x3 : Ext w W3 := by rw [hW3]; exact ((((Ext.refl w).alloc _).alloc _).alloc _)
  have MK := hide (fun w' (h : Ext W3 w') => new3 (hW3 ▸ h))
  have hx' : Ext W3 W3 := Ext.refl _
  have hg : kgood op w1 a b = false ∨ (kgood op w1 a b = true ∧ kmay a = true ∧ kmay b = true ∧ 0 ≤ op ∧ op ≤ 12 ∧ (w1 = 32 ∨ w1 = 64)) := by
    cases h : kgood op w1 a b
    · exact .inl rfl
    · refine .inr ⟨rfl, ?_⟩
      simp only [kgood, Bool.and_eq_true, decide_eq_true_eq] at h
      exact ⟨h.1, h.2.1, h.2.2.1, h.2.2.2.1, zlong_cases h.2.2.2.2⟩
  rcases hg with hg | ⟨hg, h1, h2, h3, h4, hw⟩
  · have hz : kdo op w1 a b = kall := by simp [kdo, hg]
    rw [hz]
    clear hz
    have hc : kmay a = false ∨ (kmay a = true ∧ kmay b = false) ∨ (kmay a = true ∧ kmay b = true ∧ op < 0) ∨ (kmay a = true ∧ kmay b = true ∧ 0 ≤ op ∧ 12 < op) ∨ (kmay a = true ∧ kmay b = true ∧ 0 ≤ op ∧ op ≤ 12 ∧ (w1 != 32) = true ∧ (w1 != 64) = true) := by
      cases g1 : kmay a
      · exact .inl rfl
      · cases g2 : kmay b
        · exact .inr (.inl ⟨rfl, rfl⟩)
        · by_cases g3 : op < 0
          · exact .inr (.inr (.inl ⟨rfl, rfl, g3⟩))
          · by_cases g4 : 12 < op
            · exact .inr (.inr (.inr (.inl ⟨rfl, rfl, by omega, g4⟩)))
            · refine .inr (.inr (.inr (.inr ⟨rfl, rfl, by omega, by omega, ?_⟩)))
              simpa [kgood, g1, g2, zlong, show 0 ≤ op from by omega, show op ≤ 12 from by omega] using hg
    clear hg
    rcases hc with h1 | ⟨h1, h2⟩ | ⟨h1, h2, h3⟩ | ⟨h1, h2, h3, h4⟩ | ⟨h1, h2, h3, h4, h5, h6⟩
    all_goals
      go_enter Try.func25, Try.ntmps25
      go_wp2_with fail
      rw [← hW3]
      clear hW3
      (try clear p0 p1 pf q0 q1 qf r0 r1 rf sz sz0 sz1); obtain ⟨⟨p0, p1, pf⟩, ⟨q0, q1, qf⟩, ⟨r0, r1, rf⟩, sz⟩ := MK.out _ hx'; have sz1 := Nat.lt_of_succ_lt sz; have sz0 := Nat.lt_of_succ_lt sz1
      go_wp2_with (first
        | (go_at_call 40; (with_reducible refine (rmay_any a W3 _ (by assumption)).mono ?_); rintro e w' ⟨rfl, hx'⟩; (try clear p0 p1 pf q0 q1 qf r0 r1 rf sz sz0 sz1); obtain ⟨⟨p0, p1, pf⟩, ⟨q0, q1, qf⟩, ⟨r0, r1, rf⟩, sz⟩ := MK.out _ hx'; have sz1 := Nat.lt_of_succ_lt sz; have sz0 := Nat.lt_of_succ_lt sz1)
        | (go_at_call 40; (with_reducible refine (rmay_any b W3 _ (by assumption)).mono ?_); rintro e w' ⟨rfl, hx'⟩; (try clear p0 p1 pf q0 q1 qf r0 r1 rf sz sz0 sz1); obtain ⟨⟨p0, p1, pf⟩, ⟨q0, q1, qf⟩, ⟨r0, r1, rf⟩, sz⟩ := MK.out _ hx'; have sz1 := Nat.lt_of_succ_lt sz; have sz0 := Nat.lt_of_succ_lt sz1)
        | (go_at_call 48; (with_reducible refine (rall_any  W3 _ (by assumption)).mono ?_); rintro e w' ⟨rfl, hx'⟩; (try clear p0 p1 pf q0 q1 qf r0 r1 rf sz sz0 sz1); obtain ⟨⟨p0, p1, pf⟩, ⟨q0, q1, qf⟩, ⟨r0, r1, rf⟩, sz⟩ := MK.out _ hx'; have sz1 := Nat.lt_of_succ_lt sz; have sz0 := Nat.lt_of_succ_lt sz1)
        | fail)
      exact bodyPost_ret (by simp [results, Try.results25, go_sem, r0, r1, sz, Nat.ne_of_lt sz, Nat.ne_of_gt sz] <;> (first | exact ⟨rfl, rfl⟩ | rfl)) rfl ⟨rfl, by (refine hx.trans ?_; with_reducible repeat (first | assumption | exact x3.trans hx' | apply Ext.alloc | apply Ext.drew | (refine Ext.store1 ?_ (by omega) _)))⟩
  · have wA := wf_kcut ha w1
    have wB := wf_kcut hb w1
    have HWA := hide wA
    have HWB := hide wB
    obtain ⟨⟨A1, A2⟩, A3, A4⟩ := wA
    obtain ⟨⟨B1, B2⟩, B3, B4⟩ := wB
    have ho := or_zero A3 A4 B3 B4
    have hc : ((kcut a w1).m == 0) = true ∧ ((kcut b w1).m == 0) = true ∨ (((kcut a w1).m == 0) = false ∨ ((kcut a w1).m == 0) = true ∧ ((kcut b w1).m == 0) = false) := by
      cases ((kcut a w1).m == 0) <;> cases ((kcut b w1).m == 0) <;> simp
    rcases hc with ⟨m1, m2⟩ | hc
    · have hz : kdo op w1 a b = kone (zdo op w1 (kcut a w1).v (kcut b w1).v) := by
        simp only [m1, m2, Bool.and_self] at ho
        rw [kdo, if_pos hg, if_pos ho]
      rw [hz]
      clear hz ho hg
      rcases hw with rfl | rfl
      · go_enter Try.func25, Try.ntmps25
        go_wp2_with fail
        rw [← hW3]
        clear hW3
        (try clear p0 p1 pf q0 q1 qf r0 r1 rf sz sz0 sz1); obtain ⟨⟨p0, p1, pf⟩, ⟨q0, q1, qf⟩, ⟨r0, r1, rf⟩, sz⟩ := MK.out _ hx'; have sz1 := Nat.lt_of_succ_lt sz; have sz0 := Nat.lt_of_succ_lt sz1
        go_wp2_with (first
          | (go_at_call 40; (with_reducible refine (rmay_any a W3 _ (by assumption)).mono ?_); rintro e w' ⟨rfl, hx'⟩; (try clear p0 p1 pf q0 q1 qf r0 r1 rf sz sz0 sz1); obtain ⟨⟨p0, p1, pf⟩, ⟨q0, q1, qf⟩, ⟨r0, r1, rf⟩, sz⟩ := MK.out _ hx'; have sz1 := Nat.lt_of_succ_lt sz; have sz0 := Nat.lt_of_succ_lt sz1)
          | (go_at_call 40; (with_reducible refine (rmay_any b W3 _ (by assumption)).mono ?_); rintro e w' ⟨rfl, hx'⟩; (try clear p0 p1 pf q0 q1 qf r0 r1 rf sz sz0 sz1); obtain ⟨⟨p0, p1, pf⟩, ⟨q0, q1, qf⟩, ⟨r0, r1, rf⟩, sz⟩ := MK.out _ hx'; have sz1 := Nat.lt_of_succ_lt sz; have sz0 := Nat.lt_of_succ_lt sz1)
          | (go_at_call 45; (with_reducible refine (rkcut_any a _ W3 _ (by assumption) ha).mono ?_); rintro e w' ⟨rfl, hx'⟩; (try clear p0 p1 pf q0 q1 qf r0 r1 rf sz sz0 sz1); obtain ⟨⟨p0, p1, pf⟩, ⟨q0, q1, qf⟩, ⟨r0, r1, rf⟩, sz⟩ := MK.out _ hx'; have sz1 := Nat.lt_of_succ_lt sz; have sz0 := Nat.lt_of_succ_lt sz1)
          | fail)
        obtain ⟨W4, hW4⟩ : ∃ W4, W4 = (w'.setCell ⟨w.heap.size, 0, none⟩ (.int .u64 (kcut a 32).v)).setCell ⟨w.heap.size, 1, none⟩ (.int .u64 (kcut a 32).m) := ⟨_, rfl⟩
        rw [← hW4]
        have c := MK.out _ hx'
        have c0 := c.1.put (.int .u64 (kcut a 32).v) (.int .u64 (kcut a 32).m)
        rw [← hW4] at c0
        have c1 := c.2.1.off (w.heap.size) (.int .u64 (kcut a 32).v) (.int .u64 (kcut a 32).m) (by omega)
        rw [← hW4] at c1
        have c2 := c.2.2.1.off (w.heap.size) (.int .u64 (kcut a 32).v) (.int .u64 (kcut a 32).m) (by omega)
        rw [← hW4] at c2
        have xW4 : Ext w W4 := by rw [hW4]; exact (x3.trans hx').store2 (by omega) _ _
        have sW4 : w.heap.size + 1 + 1 < W4.heap.size := by rw [hW4]; simpa [World.setCell] using sz
        clear hW4 p0 p1 pf q0 q1 qf r0 r1 rf sz sz0 sz1 c hx'
        have MW4 := hide (fun w' (h : Ext W4 w') => And.intro (c0.ext h) (And.intro (c1.ext h) (And.intro (c2.ext h) (Nat.lt_of_lt_of_le sW4 h.size))))
        clear c0 c1 c2 sW4
        have hx' : Ext W4 W4 := Ext.refl _
        (try clear p0 p1 pf q0 q1 qf r0 r1 rf sz sz0 sz1); obtain ⟨⟨p0, p1, pf⟩, ⟨q0, q1, qf⟩, ⟨r0, r1, rf⟩, sz⟩ := MW4.out _ hx'; have sz1 := Nat.lt_of_succ_lt sz; have sz0 := Nat.lt_of_succ_lt sz1
        go_wp2_with (first
          | (go_at_call 45; (with_reducible refine (rkcut_any b _ W4 _ (by assumption) hb).mono ?_); rintro e w' ⟨rfl, hx'⟩; (try clear p0 p1 pf q0 q1 qf r0 r1 rf sz sz0 sz1); obtain ⟨⟨p0, p1, pf⟩, ⟨q0, q1, qf⟩, ⟨r0, r1, rf⟩, sz⟩ := MW4.out _ hx'; have sz1 := Nat.lt_of_succ_lt sz; have sz0 := Nat.lt_of_succ_lt sz1)
          | (go_at_call 36; (with_reducible refine (rdo_any _ _ _ _ _ (by assumption) (by assumption) (by assumption) (by assumption) h3 h4 (by first | exact zlong32 | exact zlong64)).mono ?_); rintro e w3 ⟨rfl, rfl⟩)
          | fail)
        obtain ⟨W5, hW5⟩ : ∃ W5, W5 = (w'.setCell ⟨w.heap.size + 1, 0, none⟩ (.int .u64 (kcut b 32).v)).setCell ⟨w.heap.size + 1, 1, none⟩ (.int .u64 (kcut b 32).m) := ⟨_, rfl⟩
        rw [← hW5]
        have c := MW4.out _ hx'
        have c0 := c.1.off (w.heap.size + 1) (.int .u64 (kcut b 32).v) (.int .u64 (kcut b 32).m) (by omega)
        rw [← hW5] at c0
        have c1 := c.2.1.put (.int .u64 (kcut b 32).v) (.int .u64 (kcut b 32).m)
        rw [← hW5] at c1
        have c2 := c.2.2.1.off (w.heap.size + 1) (.int .u64 (kcut b 32).v) (.int .u64 (kcut b 32).m) (by omega)
        rw [← hW5] at c2
        have xW5 : Ext w W5 := by rw [hW5]; exact (xW4.trans hx').store2 (by omega) _ _
        have sW5 : w.heap.size + 1 + 1 < W5.heap.size := by rw [hW5]; simpa [World.setCell] using sz
        clear hW5 p0 p1 pf q0 q1 qf r0 r1 rf sz sz0 sz1 c hx'
        have MW5 := hide (fun w' (h : Ext W5 w') => And.intro (c0.ext h) (And.intro (c1.ext h) (And.intro (c2.ext h) (Nat.lt_of_lt_of_le sW5 h.size))))
        clear c0 c1 c2 sW5
        have hx' : Ext W5 W5 := Ext.refl _
        (try clear p0 p1 pf q0 q1 qf r0 r1 rf sz sz0 sz1); obtain ⟨⟨p0, p1, pf⟩, ⟨q0, q1, qf⟩, ⟨r0, r1, rf⟩, sz⟩ := MW5.out _ hx'; have sz1 := Nat.lt_of_succ_lt sz; have sz0 := Nat.lt_of_succ_lt sz1
        go_wp2_with (first
          | (go_at_call 47; (with_reducible refine (rone_any _ W5 _ (by assumption)).mono ?_); rintro e w' ⟨rfl, hx'⟩; (try clear p0 p1 pf q0 q1 qf r0 r1 rf sz sz0 sz1); obtain ⟨⟨p0, p1, pf⟩, ⟨q0, q1, qf⟩, ⟨r0, r1, rf⟩, sz⟩ := MW5.out _ hx'; have sz1 := Nat.lt_of_succ_lt sz; have sz0 := Nat.lt_of_succ_lt sz1)
          | fail)
        exact bodyPost_ret (by simp [results, Try.results25, go_sem, r0, r1, sz, Nat.ne_of_lt sz, Nat.ne_of_gt sz] <;> (first | exact ⟨rfl, rfl⟩ | rfl)) rfl ⟨rfl, by (refine hx.trans ?_; with_reducible repeat (first | assumption | exact xW5.trans hx' | apply Ext.alloc | apply Ext.drew | (refine Ext.store1 ?_ (by omega) _)))⟩
      · go_enter Try.func25, Try.ntmps25
        go_wp2_with fail
        rw [← hW3]
        clear hW3
        (try clear p0 p1 pf q0 q1 qf r0 r1 rf sz sz0 sz1); obtain ⟨⟨p0, p1, pf⟩, ⟨q0, q1, qf⟩, ⟨r0, r1, rf⟩, sz⟩ := MK.out _ hx'; have sz1 := Nat.lt_of_succ_lt sz; have sz0 := Nat.lt_of_succ_lt sz1
        go_wp2_with (first
          | (go_at_call 40; (with_reducible refine (rmay_any a W3 _ (by assumption)).mono ?_); rintro e w' ⟨rfl, hx'⟩; (try clear p0 p1 pf q0 q1 qf r0 r1 rf sz sz0 sz1); obtain ⟨⟨p0, p1, pf⟩, ⟨q0, q1, qf⟩, ⟨r0, r1, rf⟩, sz⟩ := MK.out _ hx'; have sz1 := Nat.lt_of_succ_lt sz; have sz0 := Nat.lt_of_succ_lt sz1)
          | (go_at_call 40; (with_reducible refine (rmay_any b W3 _ (by assumption)).mono ?_); rintro e w' ⟨rfl, hx'⟩; (try clear p0 p1 pf q0 q1 qf r0 r1 rf sz sz0 sz1); obtain ⟨⟨p0, p1, pf⟩, ⟨q0, q1, qf⟩, ⟨r0, r1, rf⟩, sz⟩ := MK.out _ hx'; have sz1 := Nat.lt_of_succ_lt sz; have sz0 := Nat.lt_of_succ_lt sz1)
          | (go_at_call 45; (with_reducible refine (rkcut_any a _ W3 _ (by assumption) ha).mono ?_); rintro e w' ⟨rfl, hx'⟩; (try clear p0 p1 pf q0 q1 qf r0 r1 rf sz sz0 sz1); obtain ⟨⟨p0, p1, pf⟩, ⟨q0, q1, qf⟩, ⟨r0, r1, rf⟩, sz⟩ := MK.out _ hx'; have sz1 := Nat.lt_of_succ_lt sz; have sz0 := Nat.lt_of_succ_lt sz1)
          | fail)
        obtain ⟨W4, hW4⟩ : ∃ W4, W4 = (w'.setCell ⟨w.heap.size, 0, none⟩ (.int .u64 (kcut a 64).v)).setCell ⟨w.heap.size, 1, none⟩ (.int .u64 (kcut a 64).m) := ⟨_, rfl⟩
        rw [← hW4]
        have c := MK.out _ hx'
        have c0 := c.1.put (.int .u64 (kcut a 64).v) (.int .u64 (kcut a 64).m)
        rw [← hW4] at c0
        have c1 := c.2.1.off (w.heap.size) (.int .u64 (kcut a 64).v) (.int .u64 (kcut a 64).m) (by omega)
        rw [← hW4] at c1
        have c2 := c.2.2.1.off (w.heap.size) (.int .u64 (kcut a 64).v) (.int .u64 (kcut a 64).m) (by omega)
        rw [← hW4] at c2
        have xW4 : Ext w W4 := by rw [hW4]; exact (x3.trans hx').store2 (by omega) _ _
        have sW4 : w.heap.size + 1 + 1 < W4.heap.size := by rw [hW4]; simpa [World.setCell] using sz
        clear hW4 p0 p1 pf q0 q1 qf r0 r1 rf sz sz0 sz1 c hx'
        have MW4 := hide (fun w' (h : Ext W4 w') => And.intro (c0.ext h) (And.intro (c1.ext h) (And.intro (c2.ext h) (Nat.lt_of_lt_of_le sW4 h.size))))
        clear c0 c1 c2 sW4
        have hx' : Ext W4 W4 := Ext.refl _
        (try clear p0 p1 pf q0 q1 qf r0 r1 rf sz sz0 sz1); obtain ⟨⟨p0, p1, pf⟩, ⟨q0, q1, qf⟩, ⟨r0, r1, rf⟩, sz⟩ := MW4.out _ hx'; have sz1 := Nat.lt_of_succ_lt sz; have sz0 := Nat.lt_of_succ_lt sz1
        go_wp2_with (first
          | (go_at_call 45; (with_reducible refine (rkcut_any b _ W4 _ (by assumption) hb).mono ?_); rintro e w' ⟨rfl, hx'⟩; (try clear p0 p1 pf q0 q1 qf r0 r1 rf sz sz0 sz1); obtain ⟨⟨p0, p1, pf⟩, ⟨q0, q1, qf⟩, ⟨r0, r1, rf⟩, sz⟩ := MW4.out _ hx'; have sz1 := Nat.lt_of_succ_lt sz; have sz0 := Nat.lt_of_succ_lt sz1)
          | (go_at_call 36; (with_reducible refine (rdo_any _ _ _ _ _ (by assumption) (by assumption) (by assumption) (by assumption) h3 h4 (by first | exact zlong32 | exact zlong64)).mono ?_); rintro e w3 ⟨rfl, rfl⟩)
          | fail)
        obtain ⟨W5, hW5⟩ : ∃ W5, W5 = (w'.setCell ⟨w.heap.size + 1, 0, none⟩ (.int .u64 (kcut b 64).v)).setCell ⟨w.heap.size + 1, 1, none⟩ (.int .u64 (kcut b 64).m) := ⟨_, rfl⟩
        rw [← hW5]
        have c := MW4.out _ hx'
        have c0 := c.1.off (w.heap.size + 1) (.int .u64 (kcut b 64).v) (.int .u64 (kcut b 64).m) (by omega)
        rw [← hW5] at c0
        have c1 := c.2.1.put (.int .u64 (kcut b 64).v) (.int .u64 (kcut b 64).m)
        rw [← hW5] at c1
        have c2 := c.2.2.1.off (w.heap.size + 1) (.int .u64 (kcut b 64).v) (.int .u64 (kcut b 64).m) (by omega)
        rw [← hW5] at c2
        have xW5 : Ext w W5 := by rw [hW5]; exact (xW4.trans hx').store2 (by omega) _ _
        have sW5 : w.heap.size + 1 + 1 < W5.heap.size := by rw [hW5]; simpa [World.setCell] using sz
        clear hW5 p0 p1 pf q0 q1 qf r0 r1 rf sz sz0 sz1 c hx'
        have MW5 := hide (fun w' (h : Ext W5 w') => And.intro (c0.ext h) (And.intro (c1.ext h) (And.intro (c2.ext h) (Nat.lt_of_lt_of_le sW5 h.size))))
        clear c0 c1 c2 sW5
        have hx' : Ext W5 W5 := Ext.refl _
        (try clear p0 p1 pf q0 q1 qf r0 r1 rf sz sz0 sz1); obtain ⟨⟨p0, p1, pf⟩, ⟨q0, q1, qf⟩, ⟨r0, r1, rf⟩, sz⟩ := MW5.out _ hx'; have sz1 := Nat.lt_of_succ_lt sz; have sz0 := Nat.lt_of_succ_lt sz1
        go_wp2_with (first
          | (go_at_call 47; (with_reducible refine (rone_any _ W5 _ (by assumption)).mono ?_); rintro e w' ⟨rfl, hx'⟩; (try clear p0 p1 pf q0 q1 qf r0 r1 rf sz sz0 sz1); obtain ⟨⟨p0, p1, pf⟩, ⟨q0, q1, qf⟩, ⟨r0, r1, rf⟩, sz⟩ := MW5.out _ hx'; have sz1 := Nat.lt_of_succ_lt sz; have sz0 := Nat.lt_of_succ_lt sz1)
          | fail)
        exact bodyPost_ret (by simp [results, Try.results25, go_sem, r0, r1, sz, Nat.ne_of_lt sz, Nat.ne_of_gt sz] <;> (first | exact ⟨rfl, rfl⟩ | rfl)) rfl ⟨rfl, by (refine hx.trans ?_; with_reducible repeat (first | assumption | exact xW5.trans hx' | apply Ext.alloc | apply Ext.drew | (refine Ext.store1 ?_ (by omega) _)))⟩
    · have hz : kdo op w1 a b = kcut (kop op w1 (kcut a w1) (kcut b w1)) w1 := by
        have ho' : ¬ (bits .or .u64 (kcut a w1).m (kcut b w1).m == 0) = true := by
          rcases hc with m1 | ⟨m1, m2⟩
          · rw [ho, m1]; simp
          · rw [ho, m1, m2]; simp
        rw [kdo, if_pos hg, if_neg ho']
      rw [hz]
      clear hz ho hg
      rcases hw with rfl | rfl
      · exact rkdo_more32 op a b W w hx ha hb h1 h2 h3 h4 hc
      · exact rkdo_more64 op a b W w hx ha hb h1 h2 h3 h4 hc
end Go.Proofs.Ytkoiaadhbgccaaa
