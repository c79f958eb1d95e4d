/- The walk of the law KnownWider. -/
import Derived.Test.YtkoiaadhbgccaaaKnK
import Derived.Test.YtkoiaadhbgccaaaKnL6
import Derived.Deep.RegionHeld3
import Derived.Deep.RegionWith
import Derived.Deep.DeepCutAuto
set_option linter.unusedVariables false
set_option linter.unusedSimpArgs false
namespace Go.Proofs.Ytkoiaadhbgccaaa
open Go.RowKit Go.ChangeShapes Go.WideShapes

theorem new1s {w : World} {b : Nat} {x y u v : Value} {t : TypeId} : C2 (((w.setCell ⟨b, 0, none⟩ x).setCell ⟨b, 1, none⟩ y).alloc (.cells #[u, v] t)) w.heap.size u v := by
  have h := (new1 (w := (w.setCell ⟨b, 0, none⟩ x).setCell ⟨b, 1, none⟩ y) (x := u) (y := v) (t := t) (Ext.refl _)).1
  simpa using h
theorem new1d {w w' : World} {x y : Value} {t : TypeId} (h : Ext (w.drew.alloc (.cells #[x, y] t)) w') : C2 w' w.heap.size x y := (new1 (w := w.drew) h).1
theorem new2' {w w' : World} {x y x' y' : Value} {t u : TypeId} (h : Ext ((w.alloc (.cells #[x, y] t)).alloc (.cells #[x', y'] u)) w') : C2 w' w.heap.size x y ∧ C2 w' (w.heap.size + 1) x' y' := ⟨(new2 h).1, (new2 h).2.1⟩
theorem new2d {w w' : World} {x y x' y' : Value} {t u : TypeId} (h : Ext ((w.drew.alloc (.cells #[x, y] t)).alloc (.cells #[x', y'] u)) w') : C2 w' w.heap.size x y ∧ C2 w' (w.heap.size + 1) x' y' := new2' (w := w.drew) h
set_option maxRecDepth 100000 in
set_option maxHeartbeats 16000000 in
theorem kw_wider (op w1 : Int) (a b c d : Kn) (W : World) (ha : a.wf) (hb : b.wf) :
    Calls Try.prog 8 #[.int .i8 op, .int .i8 w1, .agg #[.int .u64 a.v, .int .u64 a.m], .agg #[.int .u64 b.v, .int .u64 b.m], .agg #[.int .u64 c.v, .int .u64 c.m], .agg #[.int .u64 d.v, .int .u64 d.m]] W fun e W' => e = .returned (.bool true) ∧ Ext W W' := by
  obtain ⟨W3, hW3⟩ : ∃ W3, W3 = ((((W.alloc (.cells #[.int .u64 a.v, .int .u64 a.m] 48)).alloc (.cells #[.int .u64 b.v, .int .u64 b.m] 48)).alloc (.cells #[.int .u64 c.v, .int .u64 c.m] 48)).alloc (.cells #[.int .u64 d.v, .int .u64 d.m] 48)) := ⟨_, rfl⟩
  have x3 : Ext W W3 := by rw [hW3]; exact (((((Ext.refl W).alloc _).alloc _).alloc _).alloc _)
  have MK := hide (fun w' (h : Ext W3 w') => new4 (hW3 ▸ h))
  have hx' : Ext W3 W3 := Ext.refl _
  have hc : kmay a = false ∨ (kmay a = true ∧ kmay b = false) ∨ (kmay a = true ∧ kmay b = true ∧ kmay c = false) ∨ (kmay a = true ∧ kmay b = true ∧ kmay c = true ∧ kmay d = false) ∨ (kmay a = true ∧ kmay b = true ∧ kmay c = true ∧ kmay d = true) := by
    cases kmay a <;> cases kmay b <;> cases kmay c <;> cases kmay d <;> simp
  rcases hc with m1 | ⟨m1, m2⟩ | ⟨m1, m2, m3⟩ | ⟨m1, m2, m3, m4⟩ | ⟨m1, m2, m3, m4⟩
  · have M1 := hide (m1)
    clear m1
    go_enter Try.func8, Try.ntmps8
    go_wp2_with fail
    rw [← hW3]
    clear hW3
    (try clear c0_0 c0_1 c0_f c1_0 c1_1 c1_f c2_0 c2_1 c2_f c3_0 c3_1 c3_f sz); obtain ⟨⟨c0_0, c0_1, c0_f⟩, ⟨c1_0, c1_1, c1_f⟩, ⟨c2_0, c2_1, c2_f⟩, ⟨c3_0, c3_1, c3_f⟩, sz⟩ := MK.out _ hx'; (try (have sz1 := Nat.lt_of_succ_lt sz)); (try (have sz0 := Nat.lt_of_succ_lt sz1))
    go_wp2_with (first
      | (go_at_call 27; (with_reducible refine (kc_may a false M1.out W3 _ (by assumption)).mono ?_); rintro e w' ⟨rfl, hx'⟩; (try clear c0_0 c0_1 c0_f c1_0 c1_1 c1_f c2_0 c2_1 c2_f c3_0 c3_1 c3_f sz); obtain ⟨⟨c0_0, c0_1, c0_f⟩, ⟨c1_0, c1_1, c1_f⟩, ⟨c2_0, c2_1, c2_f⟩, ⟨c3_0, c3_1, c3_f⟩, sz⟩ := MK.out _ hx'; (try (have sz1 := Nat.lt_of_succ_lt sz)); (try (have sz0 := Nat.lt_of_succ_lt sz1)))
      | (go_at_call 26; (with_reducible refine (kwakes_any W3 _ (by assumption)).mono ?_); rintro e w' ⟨rfl, hx'⟩; (try clear c0_0 c0_1 c0_f c1_0 c1_1 c1_f c2_0 c2_1 c2_f c3_0 c3_1 c3_f sz); obtain ⟨⟨c0_0, c0_1, c0_f⟩, ⟨c1_0, c1_1, c1_f⟩, ⟨c2_0, c2_1, c2_f⟩, ⟨c3_0, c3_1, c3_f⟩, sz⟩ := MK.out _ hx'; (try (have sz1 := Nat.lt_of_succ_lt sz)); (try (have sz0 := Nat.lt_of_succ_lt sz1)))
      | fail)
    go_ret
    exact ⟨rfl, x3.trans (by assumption)⟩
  · have M1 := hide (m1)
    have M2 := hide (m2)
    clear m1 m2
    go_enter Try.func8, Try.ntmps8
    go_wp2_with fail
    rw [← hW3]
    clear hW3
    (try clear c0_0 c0_1 c0_f c1_0 c1_1 c1_f c2_0 c2_1 c2_f c3_0 c3_1 c3_f sz); obtain ⟨⟨c0_0, c0_1, c0_f⟩, ⟨c1_0, c1_1, c1_f⟩, ⟨c2_0, c2_1, c2_f⟩, ⟨c3_0, c3_1, c3_f⟩, sz⟩ := MK.out _ hx'; (try (have sz1 := Nat.lt_of_succ_lt sz)); (try (have sz0 := Nat.lt_of_succ_lt sz1))
    go_wp2_with (first
      | (go_at_call 27; (with_reducible refine (kc_may a true M1.out W3 _ (by assumption)).mono ?_); rintro e w' ⟨rfl, hx'⟩; (try clear c0_0 c0_1 c0_f c1_0 c1_1 c1_f c2_0 c2_1 c2_f c3_0 c3_1 c3_f sz); obtain ⟨⟨c0_0, c0_1, c0_f⟩, ⟨c1_0, c1_1, c1_f⟩, ⟨c2_0, c2_1, c2_f⟩, ⟨c3_0, c3_1, c3_f⟩, sz⟩ := MK.out _ hx'; (try (have sz1 := Nat.lt_of_succ_lt sz)); (try (have sz0 := Nat.lt_of_succ_lt sz1)))
      | (go_at_call 27; (with_reducible refine (kc_may b false M2.out W3 _ (by assumption)).mono ?_); rintro e w' ⟨rfl, hx'⟩; (try clear c0_0 c0_1 c0_f c1_0 c1_1 c1_f c2_0 c2_1 c2_f c3_0 c3_1 c3_f sz); obtain ⟨⟨c0_0, c0_1, c0_f⟩, ⟨c1_0, c1_1, c1_f⟩, ⟨c2_0, c2_1, c2_f⟩, ⟨c3_0, c3_1, c3_f⟩, sz⟩ := MK.out _ hx'; (try (have sz1 := Nat.lt_of_succ_lt sz)); (try (have sz0 := Nat.lt_of_succ_lt sz1)))
      | (go_at_call 26; (with_reducible refine (kwakes_any W3 _ (by assumption)).mono ?_); rintro e w' ⟨rfl, hx'⟩; (try clear c0_0 c0_1 c0_f c1_0 c1_1 c1_f c2_0 c2_1 c2_f c3_0 c3_1 c3_f sz); obtain ⟨⟨c0_0, c0_1, c0_f⟩, ⟨c1_0, c1_1, c1_f⟩, ⟨c2_0, c2_1, c2_f⟩, ⟨c3_0, c3_1, c3_f⟩, sz⟩ := MK.out _ hx'; (try (have sz1 := Nat.lt_of_succ_lt sz)); (try (have sz0 := Nat.lt_of_succ_lt sz1)))
      | fail)
    go_ret
    exact ⟨rfl, x3.trans (by assumption)⟩
  · have M1 := hide (m1)
    have M2 := hide (m2)
    have M3 := hide (m3)
    clear m1 m2 m3
    go_enter Try.func8, Try.ntmps8
    go_wp2_with fail
    rw [← hW3]
    clear hW3
    (try clear c0_0 c0_1 c0_f c1_0 c1_1 c1_f c2_0 c2_1 c2_f c3_0 c3_1 c3_f sz); obtain ⟨⟨c0_0, c0_1, c0_f⟩, ⟨c1_0, c1_1, c1_f⟩, ⟨c2_0, c2_1, c2_f⟩, ⟨c3_0, c3_1, c3_f⟩, sz⟩ := MK.out _ hx'; (try (have sz1 := Nat.lt_of_succ_lt sz)); (try (have sz0 := Nat.lt_of_succ_lt sz1))
    go_wp2_with (first
      | (go_at_call 27; (with_reducible refine (kc_may a true M1.out W3 _ (by assumption)).mono ?_); rintro e w' ⟨rfl, hx'⟩; (try clear c0_0 c0_1 c0_f c1_0 c1_1 c1_f c2_0 c2_1 c2_f c3_0 c3_1 c3_f sz); obtain ⟨⟨c0_0, c0_1, c0_f⟩, ⟨c1_0, c1_1, c1_f⟩, ⟨c2_0, c2_1, c2_f⟩, ⟨c3_0, c3_1, c3_f⟩, sz⟩ := MK.out _ hx'; (try (have sz1 := Nat.lt_of_succ_lt sz)); (try (have sz0 := Nat.lt_of_succ_lt sz1)))
      | (go_at_call 27; (with_reducible refine (kc_may b true M2.out W3 _ (by assumption)).mono ?_); rintro e w' ⟨rfl, hx'⟩; (try clear c0_0 c0_1 c0_f c1_0 c1_1 c1_f c2_0 c2_1 c2_f c3_0 c3_1 c3_f sz); obtain ⟨⟨c0_0, c0_1, c0_f⟩, ⟨c1_0, c1_1, c1_f⟩, ⟨c2_0, c2_1, c2_f⟩, ⟨c3_0, c3_1, c3_f⟩, sz⟩ := MK.out _ hx'; (try (have sz1 := Nat.lt_of_succ_lt sz)); (try (have sz0 := Nat.lt_of_succ_lt sz1)))
      | (go_at_call 27; (with_reducible refine (kc_may c false M3.out W3 _ (by assumption)).mono ?_); rintro e w' ⟨rfl, hx'⟩; (try clear c0_0 c0_1 c0_f c1_0 c1_1 c1_f c2_0 c2_1 c2_f c3_0 c3_1 c3_f sz); obtain ⟨⟨c0_0, c0_1, c0_f⟩, ⟨c1_0, c1_1, c1_f⟩, ⟨c2_0, c2_1, c2_f⟩, ⟨c3_0, c3_1, c3_f⟩, sz⟩ := MK.out _ hx'; (try (have sz1 := Nat.lt_of_succ_lt sz)); (try (have sz0 := Nat.lt_of_succ_lt sz1)))
      | (go_at_call 26; (with_reducible refine (kwakes_any W3 _ (by assumption)).mono ?_); rintro e w' ⟨rfl, hx'⟩; (try clear c0_0 c0_1 c0_f c1_0 c1_1 c1_f c2_0 c2_1 c2_f c3_0 c3_1 c3_f sz); obtain ⟨⟨c0_0, c0_1, c0_f⟩, ⟨c1_0, c1_1, c1_f⟩, ⟨c2_0, c2_1, c2_f⟩, ⟨c3_0, c3_1, c3_f⟩, sz⟩ := MK.out _ hx'; (try (have sz1 := Nat.lt_of_succ_lt sz)); (try (have sz0 := Nat.lt_of_succ_lt sz1)))
      | fail)
    go_ret
    exact ⟨rfl, x3.trans (by assumption)⟩
  · have M1 := hide (m1)
    have M2 := hide (m2)
    have M3 := hide (m3)
    have M4 := hide (m4)
    clear m1 m2 m3 m4
    go_enter Try.func8, Try.ntmps8
    go_wp2_with fail
    rw [← hW3]
    clear hW3
    (try clear c0_0 c0_1 c0_f c1_0 c1_1 c1_f c2_0 c2_1 c2_f c3_0 c3_1 c3_f sz); obtain ⟨⟨c0_0, c0_1, c0_f⟩, ⟨c1_0, c1_1, c1_f⟩, ⟨c2_0, c2_1, c2_f⟩, ⟨c3_0, c3_1, c3_f⟩, sz⟩ := MK.out _ hx'; (try (have sz1 := Nat.lt_of_succ_lt sz)); (try (have sz0 := Nat.lt_of_succ_lt sz1))
    go_wp2_with (first
      | (go_at_call 27; (with_reducible refine (kc_may a true M1.out W3 _ (by assumption)).mono ?_); rintro e w' ⟨rfl, hx'⟩; (try clear c0_0 c0_1 c0_f c1_0 c1_1 c1_f c2_0 c2_1 c2_f c3_0 c3_1 c3_f sz); obtain ⟨⟨c0_0, c0_1, c0_f⟩, ⟨c1_0, c1_1, c1_f⟩, ⟨c2_0, c2_1, c2_f⟩, ⟨c3_0, c3_1, c3_f⟩, sz⟩ := MK.out _ hx'; (try (have sz1 := Nat.lt_of_succ_lt sz)); (try (have sz0 := Nat.lt_of_succ_lt sz1)))
      | (go_at_call 27; (with_reducible refine (kc_may b true M2.out W3 _ (by assumption)).mono ?_); rintro e w' ⟨rfl, hx'⟩; (try clear c0_0 c0_1 c0_f c1_0 c1_1 c1_f c2_0 c2_1 c2_f c3_0 c3_1 c3_f sz); obtain ⟨⟨c0_0, c0_1, c0_f⟩, ⟨c1_0, c1_1, c1_f⟩, ⟨c2_0, c2_1, c2_f⟩, ⟨c3_0, c3_1, c3_f⟩, sz⟩ := MK.out _ hx'; (try (have sz1 := Nat.lt_of_succ_lt sz)); (try (have sz0 := Nat.lt_of_succ_lt sz1)))
      | (go_at_call 27; (with_reducible refine (kc_may c true M3.out W3 _ (by assumption)).mono ?_); rintro e w' ⟨rfl, hx'⟩; (try clear c0_0 c0_1 c0_f c1_0 c1_1 c1_f c2_0 c2_1 c2_f c3_0 c3_1 c3_f sz); obtain ⟨⟨c0_0, c0_1, c0_f⟩, ⟨c1_0, c1_1, c1_f⟩, ⟨c2_0, c2_1, c2_f⟩, ⟨c3_0, c3_1, c3_f⟩, sz⟩ := MK.out _ hx'; (try (have sz1 := Nat.lt_of_succ_lt sz)); (try (have sz0 := Nat.lt_of_succ_lt sz1)))
      | (go_at_call 27; (with_reducible refine (kc_may d false M4.out W3 _ (by assumption)).mono ?_); rintro e w' ⟨rfl, hx'⟩; (try clear c0_0 c0_1 c0_f c1_0 c1_1 c1_f c2_0 c2_1 c2_f c3_0 c3_1 c3_f sz); obtain ⟨⟨c0_0, c0_1, c0_f⟩, ⟨c1_0, c1_1, c1_f⟩, ⟨c2_0, c2_1, c2_f⟩, ⟨c3_0, c3_1, c3_f⟩, sz⟩ := MK.out _ hx'; (try (have sz1 := Nat.lt_of_succ_lt sz)); (try (have sz0 := Nat.lt_of_succ_lt sz1)))
      | (go_at_call 26; (with_reducible refine (kwakes_any W3 _ (by assumption)).mono ?_); rintro e w' ⟨rfl, hx'⟩; (try clear c0_0 c0_1 c0_f c1_0 c1_1 c1_f c2_0 c2_1 c2_f c3_0 c3_1 c3_f sz); obtain ⟨⟨c0_0, c0_1, c0_f⟩, ⟨c1_0, c1_1, c1_f⟩, ⟨c2_0, c2_1, c2_f⟩, ⟨c3_0, c3_1, c3_f⟩, sz⟩ := MK.out _ hx'; (try (have sz1 := Nat.lt_of_succ_lt sz)); (try (have sz0 := Nat.lt_of_succ_lt sz1)))
      | fail)
    go_ret
    exact ⟨rfl, x3.trans (by assumption)⟩
  · have M1 := hide (m1)
    have M2 := hide (m2)
    have M3 := hide (m3)
    have M4 := hide (m4)
    have I1 := hide (kin_join1 m1 m3)
    have I2 := hide (kin_join1 m2 m4)
    have I3 := hide ((kdo_mono (op := op) (w := w1) ha hb (wf_kjoin a c) (wf_kjoin b d) (kin_join1 m1 m3) (kin_join1 m2 m4) : kin (kdo op w1 a b) (kdo op w1 (kjoin a c) (kjoin b d)) = true))
    clear m1 m2 m3 m4
    go_enter Try.func8, Try.ntmps8
    go_wp2_with fail
    rw [← hW3]
    clear hW3
    (try clear c0_0 c0_1 c0_f c1_0 c1_1 c1_f c2_0 c2_1 c2_f c3_0 c3_1 c3_f sz); obtain ⟨⟨c0_0, c0_1, c0_f⟩, ⟨c1_0, c1_1, c1_f⟩, ⟨c2_0, c2_1, c2_f⟩, ⟨c3_0, c3_1, c3_f⟩, sz⟩ := MK.out _ hx'; (try (have sz1 := Nat.lt_of_succ_lt sz)); (try (have sz0 := Nat.lt_of_succ_lt sz1))
    go_wp2_with (first
      | (go_at_call 27; (with_reducible refine (kc_may a true M1.out W3 _ (by assumption)).mono ?_); rintro e w' ⟨rfl, hx'⟩; (try clear c0_0 c0_1 c0_f c1_0 c1_1 c1_f c2_0 c2_1 c2_f c3_0 c3_1 c3_f sz); obtain ⟨⟨c0_0, c0_1, c0_f⟩, ⟨c1_0, c1_1, c1_f⟩, ⟨c2_0, c2_1, c2_f⟩, ⟨c3_0, c3_1, c3_f⟩, sz⟩ := MK.out _ hx'; (try (have sz1 := Nat.lt_of_succ_lt sz)); (try (have sz0 := Nat.lt_of_succ_lt sz1)))
      | (go_at_call 27; (with_reducible refine (kc_may b true M2.out W3 _ (by assumption)).mono ?_); rintro e w' ⟨rfl, hx'⟩; (try clear c0_0 c0_1 c0_f c1_0 c1_1 c1_f c2_0 c2_1 c2_f c3_0 c3_1 c3_f sz); obtain ⟨⟨c0_0, c0_1, c0_f⟩, ⟨c1_0, c1_1, c1_f⟩, ⟨c2_0, c2_1, c2_f⟩, ⟨c3_0, c3_1, c3_f⟩, sz⟩ := MK.out _ hx'; (try (have sz1 := Nat.lt_of_succ_lt sz)); (try (have sz0 := Nat.lt_of_succ_lt sz1)))
      | (go_at_call 27; (with_reducible refine (kc_may c true M3.out W3 _ (by assumption)).mono ?_); rintro e w' ⟨rfl, hx'⟩; (try clear c0_0 c0_1 c0_f c1_0 c1_1 c1_f c2_0 c2_1 c2_f c3_0 c3_1 c3_f sz); obtain ⟨⟨c0_0, c0_1, c0_f⟩, ⟨c1_0, c1_1, c1_f⟩, ⟨c2_0, c2_1, c2_f⟩, ⟨c3_0, c3_1, c3_f⟩, sz⟩ := MK.out _ hx'; (try (have sz1 := Nat.lt_of_succ_lt sz)); (try (have sz0 := Nat.lt_of_succ_lt sz1)))
      | (go_at_call 27; (with_reducible refine (kc_may d true M4.out W3 _ (by assumption)).mono ?_); rintro e w' ⟨rfl, hx'⟩; (try clear c0_0 c0_1 c0_f c1_0 c1_1 c1_f c2_0 c2_1 c2_f c3_0 c3_1 c3_f sz); obtain ⟨⟨c0_0, c0_1, c0_f⟩, ⟨c1_0, c1_1, c1_f⟩, ⟨c2_0, c2_1, c2_f⟩, ⟨c3_0, c3_1, c3_f⟩, sz⟩ := MK.out _ hx'; (try (have sz1 := Nat.lt_of_succ_lt sz)); (try (have sz0 := Nat.lt_of_succ_lt sz1)))
      | fail)
    go_upto_region 3 with fail
    go_cut [13, 14] (fun s13 s14 wx => ∃ b8 b9, s13 = .pointer (some ⟨b8, 0, none⟩) ∧ s14 = .pointer (some ⟨b9, 0, none⟩) ∧ Hid (Ext W3 wx ∧ C2 wx b8 (.int .u64 (kjoin a c).v) (.int .u64 (kjoin a c).m) ∧ C2 wx b9 (.int .u64 (kjoin b d).v) (.int .u64 (kjoin b d).m)))
    case first =>
      as_aux_lemma =>
        have SK := hide (fun w' (h : Ext W3 w') => (⟨h, (MK.out _ h).1.1, (MK.out _ h).1.2.1, (MK.out _ h).2.1.1, (MK.out _ h).2.1.2.1, (MK.out _ h).2.2.1.1, (MK.out _ h).2.2.1.2.1, (MK.out _ h).2.2.2.1.1, (MK.out _ h).2.2.2.1.2.1⟩ : Ext W3 w' ∧ w'.cell? ⟨W.heap.size, 0, none⟩ = some (.int .u64 a.v) ∧ w'.cell? ⟨W.heap.size, 1, none⟩ = some (.int .u64 a.m) ∧ w'.cell? ⟨W.heap.size + 1, 0, none⟩ = some (.int .u64 b.v) ∧ w'.cell? ⟨W.heap.size + 1, 1, none⟩ = some (.int .u64 b.m) ∧ w'.cell? ⟨W.heap.size + 1 + 1, 0, none⟩ = some (.int .u64 c.v) ∧ w'.cell? ⟨W.heap.size + 1 + 1, 1, none⟩ = some (.int .u64 c.m) ∧ w'.cell? ⟨W.heap.size + 1 + 1 + 1, 0, none⟩ = some (.int .u64 d.v) ∧ w'.cell? ⟨W.heap.size + 1 + 1 + 1, 1, none⟩ = some (.int .u64 d.m)))
        have hxd := hx'.drew
        clear c0_0 c0_1 c0_f c1_0 c1_1 c1_f c2_0 c2_1 c2_f c3_0 c3_1 c3_f sz
        try clear sz0
        try clear sz1
        have hxd0 := hx'
        go_region_held3 (fun w' => Ext W3 w' ∧ w'.cell? ⟨W.heap.size, 0, none⟩ = some (.int .u64 a.v) ∧ w'.cell? ⟨W.heap.size, 1, none⟩ = some (.int .u64 a.m) ∧ w'.cell? ⟨W.heap.size + 1, 0, none⟩ = some (.int .u64 b.v) ∧ w'.cell? ⟨W.heap.size + 1, 1, none⟩ = some (.int .u64 b.m) ∧ w'.cell? ⟨W.heap.size + 1 + 1, 0, none⟩ = some (.int .u64 c.v) ∧ w'.cell? ⟨W.heap.size + 1 + 1, 1, none⟩ = some (.int .u64 c.m) ∧ w'.cell? ⟨W.heap.size + 1 + 1 + 1, 0, none⟩ = some (.int .u64 d.v) ∧ w'.cell? ⟨W.heap.size + 1 + 1 + 1, 1, none⟩ = some (.int .u64 d.m))
          ((refine SK.out _ ?_; repeat (with_reducible first | assumption | exact hxd1 | exact hxd2 | apply Ext.alloc | apply Ext.drew | (refine Ext.store1 ?_ ?_ _; rotate_left 1; (have := hxd0.size; (try have := hxd1.size); (try have := hxd2.size); first | (simp; done) | (simp; omega) | omega)))))
          (first
          | (go_at_call 30; have hq := And.left ‹Ext W3 _ ∧ _›; (with_reducible refine (kjoin_any a c _ _ (Ext.refl _)).mono ?_); rintro e wa ⟨rfl, hy⟩; have hxd1 : Ext W3 wa := hq.trans hy; clear hq; (try (have p := P1.out.ext (by with_reducible first | exact hy | exact ((Ext.refl _).alloc _).trans hy | exact (((Ext.refl _).alloc _).alloc _).trans hy); have ne1 := Nat.ne_of_lt p1l; have nf1 := Nat.ne_of_gt p1l; clear p10 p11 p1f P1; have P1 := hide p; have p1l := p.lt; obtain ⟨p10, p11, p1f⟩ := p)); (try (have p := P2.out.ext (by with_reducible first | exact hy | exact ((Ext.refl _).alloc _).trans hy | exact (((Ext.refl _).alloc _).alloc _).trans hy); have ne2 := Nat.ne_of_lt p2l; have nf2 := Nat.ne_of_gt p2l; clear p20 p21 p2f P2; have P2 := hide p; have p2l := p.lt; obtain ⟨p20, p21, p2f⟩ := p)); (first | (have pp := new2d (w := w') hy; have p := pp.2; have P2 := hide p; have p2l := p.lt; obtain ⟨p20, p21, p2f⟩ := p; have p := pp.1; have P1 := hide p; have p1l := p.lt; obtain ⟨p10, p11, p1f⟩ := p; clear pp) | (have pp := new2' hy; have p := pp.2; have P2 := hide p; have p2l := p.lt; obtain ⟨p20, p21, p2f⟩ := p; have p := pp.1; have P1 := hide p; have p1l := p.lt; obtain ⟨p10, p11, p1f⟩ := p; clear pp) | (have p := new1d (w := w') hy; first | (have _h := P1.out; clear _h; have P2 := hide p; have p2l := p.lt; obtain ⟨p20, p21, p2f⟩ := p) | (have P1 := hide p; have p1l := p.lt; obtain ⟨p10, p11, p1f⟩ := p)) | (have p := (new1 hy).1; first | (have _h := P1.out; clear _h; have P2 := hide p; have p2l := p.lt; obtain ⟨p20, p21, p2f⟩ := p) | (have P1 := hide p; have p1l := p.lt; obtain ⟨p10, p11, p1f⟩ := p)) | skip); clear hy)
          | (go_at_call 30; have hq := And.left ‹Ext W3 _ ∧ _›; (with_reducible refine (kjoin_any b d _ _ (Ext.refl _)).mono ?_); rintro e wb ⟨rfl, hy⟩; have hxd2 : Ext W3 wb := hq.trans hy; clear hq; (try (have p := P1.out.ext (by with_reducible first | exact hy | exact ((Ext.refl _).alloc _).trans hy | exact (((Ext.refl _).alloc _).alloc _).trans hy); have ne1 := Nat.ne_of_lt p1l; have nf1 := Nat.ne_of_gt p1l; clear p10 p11 p1f P1; have P1 := hide p; have p1l := p.lt; obtain ⟨p10, p11, p1f⟩ := p)); (try (have p := P2.out.ext (by with_reducible first | exact hy | exact ((Ext.refl _).alloc _).trans hy | exact (((Ext.refl _).alloc _).alloc _).trans hy); have ne2 := Nat.ne_of_lt p2l; have nf2 := Nat.ne_of_gt p2l; clear p20 p21 p2f P2; have P2 := hide p; have p2l := p.lt; obtain ⟨p20, p21, p2f⟩ := p)); (first | (have pp := new2d (w := w') hy; have p := pp.2; have P2 := hide p; have p2l := p.lt; obtain ⟨p20, p21, p2f⟩ := p; have p := pp.1; have P1 := hide p; have p1l := p.lt; obtain ⟨p10, p11, p1f⟩ := p; clear pp) | (have pp := new2' hy; have p := pp.2; have P2 := hide p; have p2l := p.lt; obtain ⟨p20, p21, p2f⟩ := p; have p := pp.1; have P1 := hide p; have p1l := p.lt; obtain ⟨p10, p11, p1f⟩ := p; clear pp) | (have p := new1d (w := w') hy; first | (have _h := P1.out; clear _h; have P2 := hide p; have p2l := p.lt; obtain ⟨p20, p21, p2f⟩ := p) | (have P1 := hide p; have p1l := p.lt; obtain ⟨p10, p11, p1f⟩ := p)) | (have p := (new1 hy).1; first | (have _h := P1.out; clear _h; have P2 := hide p; have p2l := p.lt; obtain ⟨p20, p21, p2f⟩ := p) | (have P1 := hide p; have p1l := p.lt; obtain ⟨p10, p11, p1f⟩ := p)) | skip); clear hy))
        all_goals
          go_wp2_with fail
          go_meet
          have s0 := hxd0.size
          have s1 := hxd1.size
          refine ⟨_, _, rfl, rfl, hide ⟨?_, ?_, ?_⟩⟩
          · with_reducible first
            | exact (hxd2.alloc _).alloc _
            | exact (Ext.store2 hxd2 (by omega) _ _).alloc _
            | exact Ext.store2 (Ext.store2 hxd2 (by omega) _ _) (by omega) _ _
          all_goals with_reducible first
            | exact (new2' (Ext.refl _)).1
            | exact (new2' (Ext.refl _)).2
            | exact new1s
            | exact (C2.put P1.out _ _).ext ((Ext.refl _).alloc _)
            | exact (C2.put P2.out _ _).ext ((Ext.refl _).alloc _)
            | exact C2.put (C2.off P1.out _ _ _ (by omega)) _ _
            | exact C2.off (C2.put P1.out _ _) _ _ _ (by omega)
            | exact C2.put (C2.off P2.out _ _ _ (by omega)) _ _
            | exact C2.off (C2.put P2.out _ _) _ _ _ (by omega)
    case rest =>
      obtain ⟨b8, b9, rfl, rfl, HC⟩ := hcut
      have MC := hide (fun w2 (h : Ext wc w2) => (⟨HC.out.2.1.ext h, HC.out.2.2.ext h, MK.out w2 (HC.out.1.trans h)⟩ : C2 w2 b8 (.int .u64 (kjoin a c).v) (.int .u64 (kjoin a c).m) ∧ C2 w2 b9 (.int .u64 (kjoin b d).v) (.int .u64 (kjoin b d).m) ∧ _))
      have xC : Ext W wc := x3.trans HC.out.1
      clear c0_0 c0_1 c0_f c1_0 c1_1 c1_f c2_0 c2_1 c2_f c3_0 c3_1 c3_f sz hx'
      try clear sz0
      try clear sz1
      have hx' : Ext wc wc := Ext.refl _
      (try clear c0_0 c0_1 c0_f c1_0 c1_1 c1_f c2_0 c2_1 c2_f c3_0 c3_1 c3_f c4_0 c4_1 c4_f c5_0 c5_1 c5_f sz); obtain ⟨⟨c0_0, c0_1, c0_f⟩, ⟨c1_0, c1_1, c1_f⟩, ⟨c2_0, c2_1, c2_f⟩, ⟨c3_0, c3_1, c3_f⟩, ⟨c4_0, c4_1, c4_f⟩, ⟨c5_0, c5_1, c5_f⟩, sz⟩ := MC.out _ hx'; (try (have sz1 := Nat.lt_of_succ_lt sz)); (try (have sz0 := Nat.lt_of_succ_lt sz1))
      as_aux_lemma =>
        go_wp2_with fail
        have SK := hide (fun w' (h : Ext wc w') => (⟨h, (MC.out _ h).1.1, (MC.out _ h).1.2.1, (MC.out _ h).2.1.1, (MC.out _ h).2.1.2.1, (MC.out _ h).2.2.1.1, (MC.out _ h).2.2.1.2.1, (MC.out _ h).2.2.2.1.1, (MC.out _ h).2.2.2.1.2.1, (MC.out _ h).2.2.2.2.1.1, (MC.out _ h).2.2.2.2.1.2.1, (MC.out _ h).2.2.2.2.2.1.1, (MC.out _ h).2.2.2.2.2.1.2.1⟩ : Ext wc w' ∧ w'.cell? ⟨b8, 0, none⟩ = some (.int .u64 (kjoin a c).v) ∧ w'.cell? ⟨b8, 1, none⟩ = some (.int .u64 (kjoin a c).m) ∧ w'.cell? ⟨b9, 0, none⟩ = some (.int .u64 (kjoin b d).v) ∧ w'.cell? ⟨b9, 1, none⟩ = some (.int .u64 (kjoin b d).m) ∧ w'.cell? ⟨W.heap.size, 0, none⟩ = some (.int .u64 a.v) ∧ w'.cell? ⟨W.heap.size, 1, none⟩ = some (.int .u64 a.m) ∧ w'.cell? ⟨W.heap.size + 1, 0, none⟩ = some (.int .u64 b.v) ∧ w'.cell? ⟨W.heap.size + 1, 1, none⟩ = some (.int .u64 b.m) ∧ w'.cell? ⟨W.heap.size + 1 + 1, 0, none⟩ = some (.int .u64 c.v) ∧ w'.cell? ⟨W.heap.size + 1 + 1, 1, none⟩ = some (.int .u64 c.m) ∧ w'.cell? ⟨W.heap.size + 1 + 1 + 1, 0, none⟩ = some (.int .u64 d.v) ∧ w'.cell? ⟨W.heap.size + 1 + 1 + 1, 1, none⟩ = some (.int .u64 d.m)))
        clear c0_0 c0_1 c0_f c1_0 c1_1 c1_f c2_0 c2_1 c2_f c3_0 c3_1 c3_f c4_0 c4_1 c4_f c5_0 c5_1 c5_f sz
        try clear sz0
        try clear sz1
        go_region_held3 (fun w' => Ext wc w' ∧ w'.cell? ⟨b8, 0, none⟩ = some (.int .u64 (kjoin a c).v) ∧ w'.cell? ⟨b8, 1, none⟩ = some (.int .u64 (kjoin a c).m) ∧ w'.cell? ⟨b9, 0, none⟩ = some (.int .u64 (kjoin b d).v) ∧ w'.cell? ⟨b9, 1, none⟩ = some (.int .u64 (kjoin b d).m) ∧ w'.cell? ⟨W.heap.size, 0, none⟩ = some (.int .u64 a.v) ∧ w'.cell? ⟨W.heap.size, 1, none⟩ = some (.int .u64 a.m) ∧ w'.cell? ⟨W.heap.size + 1, 0, none⟩ = some (.int .u64 b.v) ∧ w'.cell? ⟨W.heap.size + 1, 1, none⟩ = some (.int .u64 b.m) ∧ w'.cell? ⟨W.heap.size + 1 + 1, 0, none⟩ = some (.int .u64 c.v) ∧ w'.cell? ⟨W.heap.size + 1 + 1, 1, none⟩ = some (.int .u64 c.m) ∧ w'.cell? ⟨W.heap.size + 1 + 1 + 1, 0, none⟩ = some (.int .u64 d.v) ∧ w'.cell? ⟨W.heap.size + 1 + 1 + 1, 1, none⟩ = some (.int .u64 d.m))
          (first | exact SK.out _ hx' | exact SK.out _ hx'.drew)
          (first
          | (go_at_call 31; have hq := And.left ‹Ext wc _ ∧ _›; (with_reducible refine (kc_in a (kjoin a c) true I1.out wc _ hq).mono ?_); rintro e w' ⟨rfl, hx'⟩)
          | (go_at_call 31; have hq := And.left ‹Ext wc _ ∧ _›; (with_reducible refine (kc_in b (kjoin b d) true I2.out wc _ hq).mono ?_); rintro e w' ⟨rfl, hx'⟩)
          | (go_at_call 31; have hq := And.left ‹Ext wc _ ∧ _›; (with_reducible refine (kc_in (kdo op w1 a b) (kdo op w1 (kjoin a c) (kjoin b d)) true I3.out wc _ hq).mono ?_); rintro e w' ⟨rfl, hx'⟩)
          | (go_at_call 24; have hq := And.left ‹Ext wc _ ∧ _›; (with_reducible refine (kdo_any op w1 a b wc _ hq ha hb).mono ?_); rintro e w' ⟨rfl, hx'⟩)
          | (go_at_call 24; have hq := And.left ‹Ext wc _ ∧ _›; (with_reducible refine (kdo_any op w1 (kjoin a c) (kjoin b d) wc _ hq (wf_kjoin a c) (wf_kjoin b d)).mono ?_); rintro e w' ⟨rfl, hx'⟩)
          | (go_at_call 26; have hq := And.left ‹Ext wc _ ∧ _›; (with_reducible refine (kwakes_any wc _ hq).mono ?_); rintro e w' ⟨rfl, hx'⟩))
        clear SK
        all_goals
          go_wp2_with fail
          go_ret
          exact ⟨rfl, xC.trans (by assumption)⟩
theorem law_KnownWider {H : Type} {enc : TypeId × Value → H} {W : World} {r : Reach} {b0 : Nat} (a0 : Int) (w0 : (Lit.int .i8 a0).wf = true)
    (a1 : Int) (w1 : (Lit.int .i8 a1).wf = true)
    (v2 : Value) (k2 : Value.okWide Try.prog W r b0 48 v2) (d2 : DataW H) (p2 : List MemPlace) (h2 : DataW.Trod enc Try.prog W 0 (fun _ => true) true 48 v2 d2 p2) (_ : ∀ x ∈ p2, x.block < W.heap.size)
    (v3 : Value) (k3 : Value.okWide Try.prog W r b0 48 v3) (d3 : DataW H) (p3 : List MemPlace) (h3 : DataW.Trod enc Try.prog W 0 (fun _ => true) true 48 v3 d3 p3) (_ : ∀ x ∈ p3, x.block < W.heap.size)
    (v4 : Value) (k4 : Value.okWide Try.prog W r b0 48 v4) (d4 : DataW H) (p4 : List MemPlace) (h4 : DataW.Trod enc Try.prog W 0 (fun _ => true) true 48 v4 d4 p4) (_ : ∀ x ∈ p4, x.block < W.heap.size)
    (v5 : Value) (k5 : Value.okWide Try.prog W r b0 48 v5) (d5 : DataW H) (p5 : List MemPlace) (h5 : DataW.Trod enc Try.prog W 0 (fun _ => true) true 48 v5 d5 p5) (_ : ∀ x ∈ p5, x.block < W.heap.size) :
    Calls Try.prog 8 #[.int .i8 a0, .int .i8 a1, v2, v3, v4, v5] W fun e W' => e = .returned (.bool true) ∧ Below W.heap.size W W' := by
  obtain ⟨q2, rfl, g2⟩ := Kn.of_arg k2 h2
  obtain ⟨q3, rfl, g3⟩ := Kn.of_arg k3 h3
  obtain ⟨q4, rfl, g4⟩ := Kn.of_arg k4 h4
  obtain ⟨q5, rfl, g5⟩ := Kn.of_arg k5 h5
  exact kw_wider a0 a1 q2 q3 q4 q5 W g2 g3
end Go.Proofs.Ytkoiaadhbgccaaa
