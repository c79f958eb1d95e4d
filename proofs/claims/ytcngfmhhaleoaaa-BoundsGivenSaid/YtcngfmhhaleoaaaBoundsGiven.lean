/- The walk of the law BoundsGiven. -/
import Derived.Test.YtcngfmhhaleoaaaBdK
import Derived.Test.YtcngfmhhaleoaaaBdGall
import Derived.Test.YtcngfmhhaleoaaaBdI
import Derived.Test.YtcngfmhhaleoaaaBdP
import Derived.Test.YtcngfmhhaleoaaaBdQ
import Derived.Deep.RegionHeld3
import Derived.Deep.RegionWith
import Derived.Deep.DeepCutAuto
import Derived.Deep.CutBlock
set_option linter.unusedVariables false
set_option linter.unusedSimpArgs false
namespace Go.Proofs.Ytcngfmhhaleoaaa
open Go.RowKit Go.ChangeShapes Go.WideShapes

set_option maxRecDepth 100000 in
set_option maxHeartbeats 16000000 in
theorem bg_walk (cc : Int) (a b : Rg) (v x : Int) (ha : a.wf) (hb : b.wf) (v0 : 0 ≤ v) (v1 : v ≤ 18446744073709551615) (x0 : 0 ≤ x) (x1 : x ≤ 18446744073709551615) (W w : World) (hx : Ext W w) :
    Calls Try.prog 5 #[.int .i8 cc, .agg #[.int .u64 a.ul, .int .u64 a.uh, .int .i64 a.sl, .int .i64 a.sh], .agg #[.int .u64 b.ul, .int .u64 b.uh, .int .i64 b.sl, .int .i64 b.sh], .int .u64 v, .int .u64 x] w fun e w' => e = .returned (.bool true) ∧ Ext W w' := by
  cases hA : bhas a v
  · as_aux_lemma =>
      have HA1 := hide hA
      clear hA
      obtain ⟨W3, hW3⟩ : ∃ W3, W3 = ((w.alloc (.cells #[.int .u64 a.ul, .int .u64 a.uh, .int .i64 a.sl, .int .i64 a.sh] 24)).alloc (.cells #[.int .u64 b.ul, .int .u64 b.uh, .int .i64 b.sl, .int .i64 b.sh] 24)) := ⟨_, rfl⟩
      have x3 : Ext w W3 := by rw [hW3]; exact (((Ext.refl w).alloc _).alloc _)
      have MK := hide (fun w' (h : Ext W3 w') => bk2 (hW3 ▸ h))
      have hx' : Ext W3 W3 := Ext.refl _
      go_enter Try.func5, Try.ntmps5
      go_wp2_with fail
      rw [← hW3]
      clear hW3
      (try clear c0_0 c0_1 c0_2 c0_3 c1_0 c1_1 c1_2 c1_3 c0_f c1_f c0_l c1_l); have mk := MK.out _ hx'; have c0_0 : _ = some _ := mk.1.cell 0; have c0_1 : _ = some _ := mk.1.cell 1; have c0_2 : _ = some _ := mk.1.cell 2; have c0_3 : _ = some _ := mk.1.cell 3; have c0_f := mk.1.free; have c0_l := mk.1.lt; have c1_0 : _ = some _ := mk.2.1.cell 0; have c1_1 : _ = some _ := mk.2.1.cell 1; have c1_2 : _ = some _ := mk.2.1.cell 2; have c1_3 : _ = some _ := mk.2.1.cell 3; have c1_f := mk.2.1.free; have c1_l := mk.2.1.lt; clear mk
      go_wp2_with (first
        | (go_at_call 12; (with_reducible refine (b_has a v _ HA1.out W3 _ (by assumption)).mono ?_); rintro e w' ⟨rfl, hx'⟩; (try clear c0_0 c0_1 c0_2 c0_3 c1_0 c1_1 c1_2 c1_3 c0_f c1_f c0_l c1_l); have mk := MK.out _ hx'; have c0_0 : _ = some _ := mk.1.cell 0; have c0_1 : _ = some _ := mk.1.cell 1; have c0_2 : _ = some _ := mk.1.cell 2; have c0_3 : _ = some _ := mk.1.cell 3; have c0_f := mk.1.free; have c0_l := mk.1.lt; have c1_0 : _ = some _ := mk.2.1.cell 0; have c1_1 : _ = some _ := mk.2.1.cell 1; have c1_2 : _ = some _ := mk.2.1.cell 2; have c1_3 : _ = some _ := mk.2.1.cell 3; have c1_f := mk.2.1.free; have c1_l := mk.2.1.lt; clear mk)
        | (go_at_call 14; (with_reducible refine (b_wakes W3 _ (by assumption)).mono ?_); rintro e w' ⟨rfl, hx'⟩; (try clear c0_0 c0_1 c0_2 c0_3 c1_0 c1_1 c1_2 c1_3 c0_f c1_f c0_l c1_l); have mk := MK.out _ hx'; have c0_0 : _ = some _ := mk.1.cell 0; have c0_1 : _ = some _ := mk.1.cell 1; have c0_2 : _ = some _ := mk.1.cell 2; have c0_3 : _ = some _ := mk.1.cell 3; have c0_f := mk.1.free; have c0_l := mk.1.lt; have c1_0 : _ = some _ := mk.2.1.cell 0; have c1_1 : _ = some _ := mk.2.1.cell 1; have c1_2 : _ = some _ := mk.2.1.cell 2; have c1_3 : _ = some _ := mk.2.1.cell 3; have c1_f := mk.2.1.free; have c1_l := mk.2.1.lt; clear mk)
        | fail)
      go_ret
      exact ⟨rfl, by (refine hx.trans ?_; with_reducible repeat (first | assumption | exact x3.trans hx' | exact x3.trans (by assumption) | apply Ext.alloc | apply Ext.drew | (refine Ext.store1 ?_ (by omega) _)))⟩
  · cases hB : bhas b x
    · as_aux_lemma =>
        have HA1 := hide hA
        have HB1 := hide hB
        clear hA hB
        obtain ⟨W3, hW3⟩ : ∃ W3, W3 = ((w.alloc (.cells #[.int .u64 a.ul, .int .u64 a.uh, .int .i64 a.sl, .int .i64 a.sh] 24)).alloc (.cells #[.int .u64 b.ul, .int .u64 b.uh, .int .i64 b.sl, .int .i64 b.sh] 24)) := ⟨_, rfl⟩
        have x3 : Ext w W3 := by rw [hW3]; exact (((Ext.refl w).alloc _).alloc _)
        have MK := hide (fun w' (h : Ext W3 w') => bk2 (hW3 ▸ h))
        have hx' : Ext W3 W3 := Ext.refl _
        go_enter Try.func5, Try.ntmps5
        go_wp2_with fail
        rw [← hW3]
        clear hW3
        (try clear c0_0 c0_1 c0_2 c0_3 c1_0 c1_1 c1_2 c1_3 c0_f c1_f c0_l c1_l); have mk := MK.out _ hx'; have c0_0 : _ = some _ := mk.1.cell 0; have c0_1 : _ = some _ := mk.1.cell 1; have c0_2 : _ = some _ := mk.1.cell 2; have c0_3 : _ = some _ := mk.1.cell 3; have c0_f := mk.1.free; have c0_l := mk.1.lt; have c1_0 : _ = some _ := mk.2.1.cell 0; have c1_1 : _ = some _ := mk.2.1.cell 1; have c1_2 : _ = some _ := mk.2.1.cell 2; have c1_3 : _ = some _ := mk.2.1.cell 3; have c1_f := mk.2.1.free; have c1_l := mk.2.1.lt; clear mk
        go_wp2_with (first
          | (go_at_call 12; (with_reducible refine (b_has a v _ HA1.out W3 _ (by assumption)).mono ?_); rintro e w' ⟨rfl, hx'⟩; (try clear c0_0 c0_1 c0_2 c0_3 c1_0 c1_1 c1_2 c1_3 c0_f c1_f c0_l c1_l); have mk := MK.out _ hx'; have c0_0 : _ = some _ := mk.1.cell 0; have c0_1 : _ = some _ := mk.1.cell 1; have c0_2 : _ = some _ := mk.1.cell 2; have c0_3 : _ = some _ := mk.1.cell 3; have c0_f := mk.1.free; have c0_l := mk.1.lt; have c1_0 : _ = some _ := mk.2.1.cell 0; have c1_1 : _ = some _ := mk.2.1.cell 1; have c1_2 : _ = some _ := mk.2.1.cell 2; have c1_3 : _ = some _ := mk.2.1.cell 3; have c1_f := mk.2.1.free; have c1_l := mk.2.1.lt; clear mk)
          | (go_at_call 12; (with_reducible refine (b_has b x _ HB1.out W3 _ (by assumption)).mono ?_); rintro e w' ⟨rfl, hx'⟩; (try clear c0_0 c0_1 c0_2 c0_3 c1_0 c1_1 c1_2 c1_3 c0_f c1_f c0_l c1_l); have mk := MK.out _ hx'; have c0_0 : _ = some _ := mk.1.cell 0; have c0_1 : _ = some _ := mk.1.cell 1; have c0_2 : _ = some _ := mk.1.cell 2; have c0_3 : _ = some _ := mk.1.cell 3; have c0_f := mk.1.free; have c0_l := mk.1.lt; have c1_0 : _ = some _ := mk.2.1.cell 0; have c1_1 : _ = some _ := mk.2.1.cell 1; have c1_2 : _ = some _ := mk.2.1.cell 2; have c1_3 : _ = some _ := mk.2.1.cell 3; have c1_f := mk.2.1.free; have c1_l := mk.2.1.lt; clear mk)
          | (go_at_call 14; (with_reducible refine (b_wakes W3 _ (by assumption)).mono ?_); rintro e w' ⟨rfl, hx'⟩; (try clear c0_0 c0_1 c0_2 c0_3 c1_0 c1_1 c1_2 c1_3 c0_f c1_f c0_l c1_l); have mk := MK.out _ hx'; have c0_0 : _ = some _ := mk.1.cell 0; have c0_1 : _ = some _ := mk.1.cell 1; have c0_2 : _ = some _ := mk.1.cell 2; have c0_3 : _ = some _ := mk.1.cell 3; have c0_f := mk.1.free; have c0_l := mk.1.lt; have c1_0 : _ = some _ := mk.2.1.cell 0; have c1_1 : _ = some _ := mk.2.1.cell 1; have c1_2 : _ = some _ := mk.2.1.cell 2; have c1_3 : _ = some _ := mk.2.1.cell 3; have c1_f := mk.2.1.free; have c1_l := mk.2.1.lt; clear mk)
          | fail)
        go_ret
        exact ⟨rfl, by (refine hx.trans ?_; with_reducible repeat (first | assumption | exact x3.trans hx' | exact x3.trans (by assumption) | apply Ext.alloc | apply Ext.drew | (refine Ext.store1 ?_ (by omega) _)))⟩
    · have WA := hide ha
      have WB := hide hb
      have HA1 := hide hA
      have HB1 := hide hB
      obtain ⟨g, hg⟩ : ∃ g, bgiv cc a b = g := ⟨_, rfl⟩
      have hr : (∃ y k : Bool, (∀ w, Calls Try.prog 36 #[.int .i8 cc, .int .i8 64, .int .u64 v, .int .u64 x] w fun e w' => e = .returned (.tuple #[.bool y, .int .i64 0]) ∧ w = w') ∧ bgok cc a b = k ∧ ((y = false ∧ k = false) ∨ (y = false ∧ k = true ∧ bin g a = true) ∨ (y = true ∧ k = true ∧ bin g a = true ∧ bhas g v = true))) ∨ ((∀ w, Calls Try.prog 36 #[.int .i8 cc, .int .i8 64, .int .u64 v, .int .u64 x] w fun e w' => e = .returned (.tuple #[.bool false, .int .i64 2]) ∧ w = w') ∧ bgok cc a b = false) := by
        by_cases hcc : 0 ≤ cc ∧ cc ≤ 10
        · refine .inl ⟨zhold cc 64 v x, bgok cc a b, fun w => holds_any cc 64 v x w v0 v1 x0 x1 hcc.1 hcc.2 rfl, rfl, ?_⟩
          cases hy : zhold cc 64 v x
          · cases hk : bgok cc a b
            · exact .inl ⟨rfl, rfl⟩
            · exact .inr (.inl ⟨rfl, rfl, by rw [← hg]; exact giv_in hk⟩)
          · have h := giv_has ha hb v0 v1 x0 x1 hA hB hcc.1 hcc.2 (zhold_bhold hy)
            exact .inr (.inr ⟨rfl, h.1, by rw [← hg]; exact giv_in h.1, by rw [← hg]; exact h.2⟩)
        · refine .inr ⟨fun w => holds_bad cc 64 v x w (by have := hcc; simp; omega), ?_⟩
          have : bgood cc a b = false := by
            unfold bgood
            by_cases h0 : 0 ≤ cc
            · rw [decide_eq_false (show ¬ cc ≤ 10 by omega)]; simp
            · rw [decide_eq_false h0]; simp
          exact (bgiv_not (.inl this)).1
      have GG := hide hg
      clear hA hB hg
      rcases hr with ⟨y, k, hd, hk, hr⟩ | ⟨hd, hk⟩
      · rcases hr with ⟨rfl, rfl⟩ | ⟨rfl, rfl, h8⟩ | ⟨rfl, rfl, h8, h7⟩
        · as_aux_lemma =>
            have HD := hide hd
            have HK := hide hk
            clear hd hk
            obtain ⟨W3, hW3⟩ : ∃ W3, W3 = ((w.alloc (.cells #[.int .u64 a.ul, .int .u64 a.uh, .int .i64 a.sl, .int .i64 a.sh] 24)).alloc (.cells #[.int .u64 b.ul, .int .u64 b.uh, .int .i64 b.sl, .int .i64 b.sh] 24)) := ⟨_, rfl⟩
            have x3 : Ext w W3 := by rw [hW3]; exact (((Ext.refl w).alloc _).alloc _)
            have MK := hide (fun w' (h : Ext W3 w') => bk2 (hW3 ▸ h))
            have hx' : Ext W3 W3 := Ext.refl _
            go_enter Try.func5, Try.ntmps5
            go_wp2_with fail
            rw [← hW3]
            clear hW3
            (try clear c0_0 c0_1 c0_2 c0_3 c1_0 c1_1 c1_2 c1_3 c0_f c1_f c0_l c1_l); have mk := MK.out _ hx'; have c0_0 : _ = some _ := mk.1.cell 0; have c0_1 : _ = some _ := mk.1.cell 1; have c0_2 : _ = some _ := mk.1.cell 2; have c0_3 : _ = some _ := mk.1.cell 3; have c0_f := mk.1.free; have c0_l := mk.1.lt; have c1_0 : _ = some _ := mk.2.1.cell 0; have c1_1 : _ = some _ := mk.2.1.cell 1; have c1_2 : _ = some _ := mk.2.1.cell 2; have c1_3 : _ = some _ := mk.2.1.cell 3; have c1_f := mk.2.1.free; have c1_l := mk.2.1.lt; clear mk
            go_wp2_with (first
              | (go_at_call 12; (with_reducible refine (b_has a v _ HA1.out W3 _ (by assumption)).mono ?_); rintro e w' ⟨rfl, hx'⟩; (try clear c0_0 c0_1 c0_2 c0_3 c1_0 c1_1 c1_2 c1_3 c0_f c1_f c0_l c1_l); have mk := MK.out _ hx'; have c0_0 : _ = some _ := mk.1.cell 0; have c0_1 : _ = some _ := mk.1.cell 1; have c0_2 : _ = some _ := mk.1.cell 2; have c0_3 : _ = some _ := mk.1.cell 3; have c0_f := mk.1.free; have c0_l := mk.1.lt; have c1_0 : _ = some _ := mk.2.1.cell 0; have c1_1 : _ = some _ := mk.2.1.cell 1; have c1_2 : _ = some _ := mk.2.1.cell 2; have c1_3 : _ = some _ := mk.2.1.cell 3; have c1_f := mk.2.1.free; have c1_l := mk.2.1.lt; clear mk)
              | (go_at_call 12; (with_reducible refine (b_has b x _ HB1.out W3 _ (by assumption)).mono ?_); rintro e w' ⟨rfl, hx'⟩; (try clear c0_0 c0_1 c0_2 c0_3 c1_0 c1_1 c1_2 c1_3 c0_f c1_f c0_l c1_l); have mk := MK.out _ hx'; have c0_0 : _ = some _ := mk.1.cell 0; have c0_1 : _ = some _ := mk.1.cell 1; have c0_2 : _ = some _ := mk.1.cell 2; have c0_3 : _ = some _ := mk.1.cell 3; have c0_f := mk.1.free; have c0_l := mk.1.lt; have c1_0 : _ = some _ := mk.2.1.cell 0; have c1_1 : _ = some _ := mk.2.1.cell 1; have c1_2 : _ = some _ := mk.2.1.cell 2; have c1_3 : _ = some _ := mk.2.1.cell 3; have c1_f := mk.2.1.free; have c1_l := mk.2.1.lt; clear mk)
              | (go_at_call 36; (with_reducible refine (HD.out _).mono ?_); rintro e w9 ⟨rfl, rfl⟩)
              | (go_at_call 19; (with_reducible refine (b_givenl cc a b g false WA.out WB.out GG.out HK.out W3 _ (by assumption)).mono ?_); rintro e w' ⟨rfl, hx'⟩; (try clear c0_0 c0_1 c0_2 c0_3 c1_0 c1_1 c1_2 c1_3 c0_f c1_f c0_l c1_l); have mk := MK.out _ hx'; have c0_0 : _ = some _ := mk.1.cell 0; have c0_1 : _ = some _ := mk.1.cell 1; have c0_2 : _ = some _ := mk.1.cell 2; have c0_3 : _ = some _ := mk.1.cell 3; have c0_f := mk.1.free; have c0_l := mk.1.lt; have c1_0 : _ = some _ := mk.2.1.cell 0; have c1_1 : _ = some _ := mk.2.1.cell 1; have c1_2 : _ = some _ := mk.2.1.cell 2; have c1_3 : _ = some _ := mk.2.1.cell 3; have c1_f := mk.2.1.free; have c1_l := mk.2.1.lt; clear mk)
              | fail)
            obtain ⟨V1, hV1⟩ : ∃ V1, V1 = (w'.alloc (.cells #[.int .u64 g.ul, .int .u64 g.uh, .int .i64 g.sl, .int .i64 g.sh] 24)) := ⟨_, rfl⟩
            rw [← hV1]
            obtain ⟨b1, hb1⟩ : ∃ b1, b1 = w'.heap.size := ⟨_, rfl⟩
            rw [← hb1]
            have xV1 : Ext w V1 := by rw [hV1]; exact ((x3.trans hx').alloc _)
            have xq : Ext W3 V1 := by rw [hV1]; exact (hx'.alloc _)
            have cn : ∀ w2, Ext V1 w2 → Bk w2 (b1) #[.int .u64 g.ul, .int .u64 g.uh, .int .i64 g.sl, .int .i64 g.sh] 24 := fun w2 h => by rw [hb1]; have hh := bk1 (hV1 ▸ h); exact hh.1
            have MV1 := hide (fun w2 (h : Ext V1 w2) => (⟨cn w2 h, MK.out w2 (xq.trans h)⟩ : Bk w2 (b1) #[.int .u64 g.ul, .int .u64 g.uh, .int .i64 g.sl, .int .i64 g.sh] 24 ∧ _))
            have lb1 : w.heap.size ≤ b1 := by rw [hb1]; exact (x3.trans hx').size
            have n1_0 : w.heap.size < b1 := by rw [hb1]; exact (MK.out _ hx').1.lt
            have n1_1 : w.heap.size + 1 < b1 := by rw [hb1]; exact (MK.out _ hx').2.1.lt
            clear hV1 hb1 xq cn hx'
            (try clear c0_0 c0_1 c0_2 c0_3 c1_0 c1_1 c1_2 c1_3 c0_f c1_f c0_l c1_l)
            have hx' : Ext V1 V1 := Ext.refl _
            (try clear c0_0 c0_1 c0_2 c0_3 c1_0 c1_1 c1_2 c1_3 c2_0 c2_1 c2_2 c2_3 c0_f c1_f c2_f c0_l c1_l c2_l); have mk := MV1.out _ hx'; have c0_0 : _ = some _ := mk.1.cell 0; have c0_1 : _ = some _ := mk.1.cell 1; have c0_2 : _ = some _ := mk.1.cell 2; have c0_3 : _ = some _ := mk.1.cell 3; have c0_f := mk.1.free; have c0_l := mk.1.lt; have c1_0 : _ = some _ := mk.2.1.cell 0; have c1_1 : _ = some _ := mk.2.1.cell 1; have c1_2 : _ = some _ := mk.2.1.cell 2; have c1_3 : _ = some _ := mk.2.1.cell 3; have c1_f := mk.2.1.free; have c1_l := mk.2.1.lt; have c2_0 : _ = some _ := mk.2.2.1.cell 0; have c2_1 : _ = some _ := mk.2.2.1.cell 1; have c2_2 : _ = some _ := mk.2.2.1.cell 2; have c2_3 : _ = some _ := mk.2.2.1.cell 3; have c2_f := mk.2.2.1.free; have c2_l := mk.2.2.1.lt; clear mk
            go_wp2_with (first
              | (go_at_call 14; (with_reducible refine (b_wakes V1 _ (by assumption)).mono ?_); rintro e w' ⟨rfl, hx'⟩; (try clear c0_0 c0_1 c0_2 c0_3 c1_0 c1_1 c1_2 c1_3 c2_0 c2_1 c2_2 c2_3 c0_f c1_f c2_f c0_l c1_l c2_l); have mk := MV1.out _ hx'; have c0_0 : _ = some _ := mk.1.cell 0; have c0_1 : _ = some _ := mk.1.cell 1; have c0_2 : _ = some _ := mk.1.cell 2; have c0_3 : _ = some _ := mk.1.cell 3; have c0_f := mk.1.free; have c0_l := mk.1.lt; have c1_0 : _ = some _ := mk.2.1.cell 0; have c1_1 : _ = some _ := mk.2.1.cell 1; have c1_2 : _ = some _ := mk.2.1.cell 2; have c1_3 : _ = some _ := mk.2.1.cell 3; have c1_f := mk.2.1.free; have c1_l := mk.2.1.lt; have c2_0 : _ = some _ := mk.2.2.1.cell 0; have c2_1 : _ = some _ := mk.2.2.1.cell 1; have c2_2 : _ = some _ := mk.2.2.1.cell 2; have c2_3 : _ = some _ := mk.2.2.1.cell 3; have c2_f := mk.2.2.1.free; have c2_l := mk.2.2.1.lt; clear mk)
              | fail)
            go_ret
            exact ⟨rfl, by (refine hx.trans ?_; with_reducible repeat (first | assumption | exact xV1.trans hx' | exact xV1.trans (by assumption) | apply Ext.alloc | apply Ext.drew | (refine Ext.store1 ?_ (by omega) _)))⟩
        · as_aux_lemma =>
            have HD := hide hd
            have HK := hide hk
            clear hd hk
            have H8 := hide h8
            clear h8
            obtain ⟨W3, hW3⟩ : ∃ W3, W3 = ((w.alloc (.cells #[.int .u64 a.ul, .int .u64 a.uh, .int .i64 a.sl, .int .i64 a.sh] 24)).alloc (.cells #[.int .u64 b.ul, .int .u64 b.uh, .int .i64 b.sl, .int .i64 b.sh] 24)) := ⟨_, rfl⟩
            have x3 : Ext w W3 := by rw [hW3]; exact (((Ext.refl w).alloc _).alloc _)
            have MK := hide (fun w' (h : Ext W3 w') => bk2 (hW3 ▸ h))
            have hx' : Ext W3 W3 := Ext.refl _
            go_enter Try.func5, Try.ntmps5
            go_wp2_with fail
            rw [← hW3]
            clear hW3
            (try clear c0_0 c0_1 c0_2 c0_3 c1_0 c1_1 c1_2 c1_3 c0_f c1_f c0_l c1_l); have mk := MK.out _ hx'; have c0_0 : _ = some _ := mk.1.cell 0; have c0_1 : _ = some _ := mk.1.cell 1; have c0_2 : _ = some _ := mk.1.cell 2; have c0_3 : _ = some _ := mk.1.cell 3; have c0_f := mk.1.free; have c0_l := mk.1.lt; have c1_0 : _ = some _ := mk.2.1.cell 0; have c1_1 : _ = some _ := mk.2.1.cell 1; have c1_2 : _ = some _ := mk.2.1.cell 2; have c1_3 : _ = some _ := mk.2.1.cell 3; have c1_f := mk.2.1.free; have c1_l := mk.2.1.lt; clear mk
            go_wp2_with (first
              | (go_at_call 12; (with_reducible refine (b_has a v _ HA1.out W3 _ (by assumption)).mono ?_); rintro e w' ⟨rfl, hx'⟩; (try clear c0_0 c0_1 c0_2 c0_3 c1_0 c1_1 c1_2 c1_3 c0_f c1_f c0_l c1_l); have mk := MK.out _ hx'; have c0_0 : _ = some _ := mk.1.cell 0; have c0_1 : _ = some _ := mk.1.cell 1; have c0_2 : _ = some _ := mk.1.cell 2; have c0_3 : _ = some _ := mk.1.cell 3; have c0_f := mk.1.free; have c0_l := mk.1.lt; have c1_0 : _ = some _ := mk.2.1.cell 0; have c1_1 : _ = some _ := mk.2.1.cell 1; have c1_2 : _ = some _ := mk.2.1.cell 2; have c1_3 : _ = some _ := mk.2.1.cell 3; have c1_f := mk.2.1.free; have c1_l := mk.2.1.lt; clear mk)
              | (go_at_call 12; (with_reducible refine (b_has b x _ HB1.out W3 _ (by assumption)).mono ?_); rintro e w' ⟨rfl, hx'⟩; (try clear c0_0 c0_1 c0_2 c0_3 c1_0 c1_1 c1_2 c1_3 c0_f c1_f c0_l c1_l); have mk := MK.out _ hx'; have c0_0 : _ = some _ := mk.1.cell 0; have c0_1 : _ = some _ := mk.1.cell 1; have c0_2 : _ = some _ := mk.1.cell 2; have c0_3 : _ = some _ := mk.1.cell 3; have c0_f := mk.1.free; have c0_l := mk.1.lt; have c1_0 : _ = some _ := mk.2.1.cell 0; have c1_1 : _ = some _ := mk.2.1.cell 1; have c1_2 : _ = some _ := mk.2.1.cell 2; have c1_3 : _ = some _ := mk.2.1.cell 3; have c1_f := mk.2.1.free; have c1_l := mk.2.1.lt; clear mk)
              | (go_at_call 36; (with_reducible refine (HD.out _).mono ?_); rintro e w9 ⟨rfl, rfl⟩)
              | (go_at_call 19; (with_reducible refine (b_givenl cc a b g true WA.out WB.out GG.out HK.out W3 _ (by assumption)).mono ?_); rintro e w' ⟨rfl, hx'⟩; (try clear c0_0 c0_1 c0_2 c0_3 c1_0 c1_1 c1_2 c1_3 c0_f c1_f c0_l c1_l); have mk := MK.out _ hx'; have c0_0 : _ = some _ := mk.1.cell 0; have c0_1 : _ = some _ := mk.1.cell 1; have c0_2 : _ = some _ := mk.1.cell 2; have c0_3 : _ = some _ := mk.1.cell 3; have c0_f := mk.1.free; have c0_l := mk.1.lt; have c1_0 : _ = some _ := mk.2.1.cell 0; have c1_1 : _ = some _ := mk.2.1.cell 1; have c1_2 : _ = some _ := mk.2.1.cell 2; have c1_3 : _ = some _ := mk.2.1.cell 3; have c1_f := mk.2.1.free; have c1_l := mk.2.1.lt; clear mk)
              | fail)
            obtain ⟨V1, hV1⟩ : ∃ V1, V1 = (w'.alloc (.cells #[.int .u64 g.ul, .int .u64 g.uh, .int .i64 g.sl, .int .i64 g.sh] 24)) := ⟨_, rfl⟩
            rw [← hV1]
            obtain ⟨b1, hb1⟩ : ∃ b1, b1 = w'.heap.size := ⟨_, rfl⟩
            rw [← hb1]
            have xV1 : Ext w V1 := by rw [hV1]; exact ((x3.trans hx').alloc _)
            have xq : Ext W3 V1 := by rw [hV1]; exact (hx'.alloc _)
            have cn : ∀ w2, Ext V1 w2 → Bk w2 (b1) #[.int .u64 g.ul, .int .u64 g.uh, .int .i64 g.sl, .int .i64 g.sh] 24 := fun w2 h => by rw [hb1]; have hh := bk1 (hV1 ▸ h); exact hh.1
            have MV1 := hide (fun w2 (h : Ext V1 w2) => (⟨cn w2 h, MK.out w2 (xq.trans h)⟩ : Bk w2 (b1) #[.int .u64 g.ul, .int .u64 g.uh, .int .i64 g.sl, .int .i64 g.sh] 24 ∧ _))
            have lb1 : w.heap.size ≤ b1 := by rw [hb1]; exact (x3.trans hx').size
            have n1_0 : w.heap.size < b1 := by rw [hb1]; exact (MK.out _ hx').1.lt
            have n1_1 : w.heap.size + 1 < b1 := by rw [hb1]; exact (MK.out _ hx').2.1.lt
            clear hV1 hb1 xq cn hx'
            (try clear c0_0 c0_1 c0_2 c0_3 c1_0 c1_1 c1_2 c1_3 c0_f c1_f c0_l c1_l)
            have hx' : Ext V1 V1 := Ext.refl _
            (try clear c0_0 c0_1 c0_2 c0_3 c1_0 c1_1 c1_2 c1_3 c2_0 c2_1 c2_2 c2_3 c0_f c1_f c2_f c0_l c1_l c2_l); have mk := MV1.out _ hx'; have c0_0 : _ = some _ := mk.1.cell 0; have c0_1 : _ = some _ := mk.1.cell 1; have c0_2 : _ = some _ := mk.1.cell 2; have c0_3 : _ = some _ := mk.1.cell 3; have c0_f := mk.1.free; have c0_l := mk.1.lt; have c1_0 : _ = some _ := mk.2.1.cell 0; have c1_1 : _ = some _ := mk.2.1.cell 1; have c1_2 : _ = some _ := mk.2.1.cell 2; have c1_3 : _ = some _ := mk.2.1.cell 3; have c1_f := mk.2.1.free; have c1_l := mk.2.1.lt; have c2_0 : _ = some _ := mk.2.2.1.cell 0; have c2_1 : _ = some _ := mk.2.2.1.cell 1; have c2_2 : _ = some _ := mk.2.2.1.cell 2; have c2_3 : _ = some _ := mk.2.2.1.cell 3; have c2_f := mk.2.2.1.free; have c2_l := mk.2.2.1.lt; clear mk
            go_wp2_with (first
              | (go_at_call 14; (with_reducible refine (b_wakes V1 _ (by assumption)).mono ?_); rintro e w' ⟨rfl, hx'⟩; (try clear c0_0 c0_1 c0_2 c0_3 c1_0 c1_1 c1_2 c1_3 c2_0 c2_1 c2_2 c2_3 c0_f c1_f c2_f c0_l c1_l c2_l); have mk := MV1.out _ hx'; have c0_0 : _ = some _ := mk.1.cell 0; have c0_1 : _ = some _ := mk.1.cell 1; have c0_2 : _ = some _ := mk.1.cell 2; have c0_3 : _ = some _ := mk.1.cell 3; have c0_f := mk.1.free; have c0_l := mk.1.lt; have c1_0 : _ = some _ := mk.2.1.cell 0; have c1_1 : _ = some _ := mk.2.1.cell 1; have c1_2 : _ = some _ := mk.2.1.cell 2; have c1_3 : _ = some _ := mk.2.1.cell 3; have c1_f := mk.2.1.free; have c1_l := mk.2.1.lt; have c2_0 : _ = some _ := mk.2.2.1.cell 0; have c2_1 : _ = some _ := mk.2.2.1.cell 1; have c2_2 : _ = some _ := mk.2.2.1.cell 2; have c2_3 : _ = some _ := mk.2.2.1.cell 3; have c2_f := mk.2.2.1.free; have c2_l := mk.2.2.1.lt; clear mk)
              | (go_at_call 30; (with_reducible refine (b_in g a true H8.out V1 _ (by assumption)).mono ?_); rintro e w' ⟨rfl, hx'⟩; (try clear c0_0 c0_1 c0_2 c0_3 c1_0 c1_1 c1_2 c1_3 c2_0 c2_1 c2_2 c2_3 c0_f c1_f c2_f c0_l c1_l c2_l); have mk := MV1.out _ hx'; have c0_0 : _ = some _ := mk.1.cell 0; have c0_1 : _ = some _ := mk.1.cell 1; have c0_2 : _ = some _ := mk.1.cell 2; have c0_3 : _ = some _ := mk.1.cell 3; have c0_f := mk.1.free; have c0_l := mk.1.lt; have c1_0 : _ = some _ := mk.2.1.cell 0; have c1_1 : _ = some _ := mk.2.1.cell 1; have c1_2 : _ = some _ := mk.2.1.cell 2; have c1_3 : _ = some _ := mk.2.1.cell 3; have c1_f := mk.2.1.free; have c1_l := mk.2.1.lt; have c2_0 : _ = some _ := mk.2.2.1.cell 0; have c2_1 : _ = some _ := mk.2.2.1.cell 1; have c2_2 : _ = some _ := mk.2.2.1.cell 2; have c2_3 : _ = some _ := mk.2.2.1.cell 3; have c2_f := mk.2.2.1.free; have c2_l := mk.2.2.1.lt; clear mk)
              | fail)
            go_ret
            exact ⟨rfl, by (refine hx.trans ?_; with_reducible repeat (first | assumption | exact xV1.trans hx' | exact xV1.trans (by assumption) | apply Ext.alloc | apply Ext.drew | (refine Ext.store1 ?_ (by omega) _)))⟩
        · as_aux_lemma =>
            have HD := hide hd
            have HK := hide hk
            clear hd hk
            have H8 := hide h8
            have H7 := hide h7
            clear h8 h7
            obtain ⟨W3, hW3⟩ : ∃ W3, W3 = ((w.alloc (.cells #[.int .u64 a.ul, .int .u64 a.uh, .int .i64 a.sl, .int .i64 a.sh] 24)).alloc (.cells #[.int .u64 b.ul, .int .u64 b.uh, .int .i64 b.sl, .int .i64 b.sh] 24)) := ⟨_, rfl⟩
            have x3 : Ext w W3 := by rw [hW3]; exact (((Ext.refl w).alloc _).alloc _)
            have MK := hide (fun w' (h : Ext W3 w') => bk2 (hW3 ▸ h))
            have hx' : Ext W3 W3 := Ext.refl _
            go_enter Try.func5, Try.ntmps5
            go_wp2_with fail
            rw [← hW3]
            clear hW3
            (try clear c0_0 c0_1 c0_2 c0_3 c1_0 c1_1 c1_2 c1_3 c0_f c1_f c0_l c1_l); have mk := MK.out _ hx'; have c0_0 : _ = some _ := mk.1.cell 0; have c0_1 : _ = some _ := mk.1.cell 1; have c0_2 : _ = some _ := mk.1.cell 2; have c0_3 : _ = some _ := mk.1.cell 3; have c0_f := mk.1.free; have c0_l := mk.1.lt; have c1_0 : _ = some _ := mk.2.1.cell 0; have c1_1 : _ = some _ := mk.2.1.cell 1; have c1_2 : _ = some _ := mk.2.1.cell 2; have c1_3 : _ = some _ := mk.2.1.cell 3; have c1_f := mk.2.1.free; have c1_l := mk.2.1.lt; clear mk
            go_wp2_with (first
              | (go_at_call 12; (with_reducible refine (b_has a v _ HA1.out W3 _ (by assumption)).mono ?_); rintro e w' ⟨rfl, hx'⟩; (try clear c0_0 c0_1 c0_2 c0_3 c1_0 c1_1 c1_2 c1_3 c0_f c1_f c0_l c1_l); have mk := MK.out _ hx'; have c0_0 : _ = some _ := mk.1.cell 0; have c0_1 : _ = some _ := mk.1.cell 1; have c0_2 : _ = some _ := mk.1.cell 2; have c0_3 : _ = some _ := mk.1.cell 3; have c0_f := mk.1.free; have c0_l := mk.1.lt; have c1_0 : _ = some _ := mk.2.1.cell 0; have c1_1 : _ = some _ := mk.2.1.cell 1; have c1_2 : _ = some _ := mk.2.1.cell 2; have c1_3 : _ = some _ := mk.2.1.cell 3; have c1_f := mk.2.1.free; have c1_l := mk.2.1.lt; clear mk)
              | (go_at_call 12; (with_reducible refine (b_has b x _ HB1.out W3 _ (by assumption)).mono ?_); rintro e w' ⟨rfl, hx'⟩; (try clear c0_0 c0_1 c0_2 c0_3 c1_0 c1_1 c1_2 c1_3 c0_f c1_f c0_l c1_l); have mk := MK.out _ hx'; have c0_0 : _ = some _ := mk.1.cell 0; have c0_1 : _ = some _ := mk.1.cell 1; have c0_2 : _ = some _ := mk.1.cell 2; have c0_3 : _ = some _ := mk.1.cell 3; have c0_f := mk.1.free; have c0_l := mk.1.lt; have c1_0 : _ = some _ := mk.2.1.cell 0; have c1_1 : _ = some _ := mk.2.1.cell 1; have c1_2 : _ = some _ := mk.2.1.cell 2; have c1_3 : _ = some _ := mk.2.1.cell 3; have c1_f := mk.2.1.free; have c1_l := mk.2.1.lt; clear mk)
              | (go_at_call 36; (with_reducible refine (HD.out _).mono ?_); rintro e w9 ⟨rfl, rfl⟩)
              | (go_at_call 19; (with_reducible refine (b_givenl cc a b g true WA.out WB.out GG.out HK.out W3 _ (by assumption)).mono ?_); rintro e w' ⟨rfl, hx'⟩; (try clear c0_0 c0_1 c0_2 c0_3 c1_0 c1_1 c1_2 c1_3 c0_f c1_f c0_l c1_l); have mk := MK.out _ hx'; have c0_0 : _ = some _ := mk.1.cell 0; have c0_1 : _ = some _ := mk.1.cell 1; have c0_2 : _ = some _ := mk.1.cell 2; have c0_3 : _ = some _ := mk.1.cell 3; have c0_f := mk.1.free; have c0_l := mk.1.lt; have c1_0 : _ = some _ := mk.2.1.cell 0; have c1_1 : _ = some _ := mk.2.1.cell 1; have c1_2 : _ = some _ := mk.2.1.cell 2; have c1_3 : _ = some _ := mk.2.1.cell 3; have c1_f := mk.2.1.free; have c1_l := mk.2.1.lt; clear mk)
              | fail)
            obtain ⟨V1, hV1⟩ : ∃ V1, V1 = (w'.alloc (.cells #[.int .u64 g.ul, .int .u64 g.uh, .int .i64 g.sl, .int .i64 g.sh] 24)) := ⟨_, rfl⟩
            rw [← hV1]
            obtain ⟨b1, hb1⟩ : ∃ b1, b1 = w'.heap.size := ⟨_, rfl⟩
            rw [← hb1]
            have xV1 : Ext w V1 := by rw [hV1]; exact ((x3.trans hx').alloc _)
            have xq : Ext W3 V1 := by rw [hV1]; exact (hx'.alloc _)
            have cn : ∀ w2, Ext V1 w2 → Bk w2 (b1) #[.int .u64 g.ul, .int .u64 g.uh, .int .i64 g.sl, .int .i64 g.sh] 24 := fun w2 h => by rw [hb1]; have hh := bk1 (hV1 ▸ h); exact hh.1
            have MV1 := hide (fun w2 (h : Ext V1 w2) => (⟨cn w2 h, MK.out w2 (xq.trans h)⟩ : Bk w2 (b1) #[.int .u64 g.ul, .int .u64 g.uh, .int .i64 g.sl, .int .i64 g.sh] 24 ∧ _))
            have lb1 : w.heap.size ≤ b1 := by rw [hb1]; exact (x3.trans hx').size
            have n1_0 : w.heap.size < b1 := by rw [hb1]; exact (MK.out _ hx').1.lt
            have n1_1 : w.heap.size + 1 < b1 := by rw [hb1]; exact (MK.out _ hx').2.1.lt
            clear hV1 hb1 xq cn hx'
            (try clear c0_0 c0_1 c0_2 c0_3 c1_0 c1_1 c1_2 c1_3 c0_f c1_f c0_l c1_l)
            have hx' : Ext V1 V1 := Ext.refl _
            (try clear c0_0 c0_1 c0_2 c0_3 c1_0 c1_1 c1_2 c1_3 c2_0 c2_1 c2_2 c2_3 c0_f c1_f c2_f c0_l c1_l c2_l); have mk := MV1.out _ hx'; have c0_0 : _ = some _ := mk.1.cell 0; have c0_1 : _ = some _ := mk.1.cell 1; have c0_2 : _ = some _ := mk.1.cell 2; have c0_3 : _ = some _ := mk.1.cell 3; have c0_f := mk.1.free; have c0_l := mk.1.lt; have c1_0 : _ = some _ := mk.2.1.cell 0; have c1_1 : _ = some _ := mk.2.1.cell 1; have c1_2 : _ = some _ := mk.2.1.cell 2; have c1_3 : _ = some _ := mk.2.1.cell 3; have c1_f := mk.2.1.free; have c1_l := mk.2.1.lt; have c2_0 : _ = some _ := mk.2.2.1.cell 0; have c2_1 : _ = some _ := mk.2.2.1.cell 1; have c2_2 : _ = some _ := mk.2.2.1.cell 2; have c2_3 : _ = some _ := mk.2.2.1.cell 3; have c2_f := mk.2.2.1.free; have c2_l := mk.2.2.1.lt; clear mk
            go_wp2_with (first
              | (go_at_call 14; (with_reducible refine (b_wakes V1 _ (by assumption)).mono ?_); rintro e w' ⟨rfl, hx'⟩; (try clear c0_0 c0_1 c0_2 c0_3 c1_0 c1_1 c1_2 c1_3 c2_0 c2_1 c2_2 c2_3 c0_f c1_f c2_f c0_l c1_l c2_l); have mk := MV1.out _ hx'; have c0_0 : _ = some _ := mk.1.cell 0; have c0_1 : _ = some _ := mk.1.cell 1; have c0_2 : _ = some _ := mk.1.cell 2; have c0_3 : _ = some _ := mk.1.cell 3; have c0_f := mk.1.free; have c0_l := mk.1.lt; have c1_0 : _ = some _ := mk.2.1.cell 0; have c1_1 : _ = some _ := mk.2.1.cell 1; have c1_2 : _ = some _ := mk.2.1.cell 2; have c1_3 : _ = some _ := mk.2.1.cell 3; have c1_f := mk.2.1.free; have c1_l := mk.2.1.lt; have c2_0 : _ = some _ := mk.2.2.1.cell 0; have c2_1 : _ = some _ := mk.2.2.1.cell 1; have c2_2 : _ = some _ := mk.2.2.1.cell 2; have c2_3 : _ = some _ := mk.2.2.1.cell 3; have c2_f := mk.2.2.1.free; have c2_l := mk.2.2.1.lt; clear mk)
              | (go_at_call 12; (with_reducible refine (b_has g v true H7.out V1 _ (by assumption)).mono ?_); rintro e w' ⟨rfl, hx'⟩; (try clear c0_0 c0_1 c0_2 c0_3 c1_0 c1_1 c1_2 c1_3 c2_0 c2_1 c2_2 c2_3 c0_f c1_f c2_f c0_l c1_l c2_l); have mk := MV1.out _ hx'; have c0_0 : _ = some _ := mk.1.cell 0; have c0_1 : _ = some _ := mk.1.cell 1; have c0_2 : _ = some _ := mk.1.cell 2; have c0_3 : _ = some _ := mk.1.cell 3; have c0_f := mk.1.free; have c0_l := mk.1.lt; have c1_0 : _ = some _ := mk.2.1.cell 0; have c1_1 : _ = some _ := mk.2.1.cell 1; have c1_2 : _ = some _ := mk.2.1.cell 2; have c1_3 : _ = some _ := mk.2.1.cell 3; have c1_f := mk.2.1.free; have c1_l := mk.2.1.lt; have c2_0 : _ = some _ := mk.2.2.1.cell 0; have c2_1 : _ = some _ := mk.2.2.1.cell 1; have c2_2 : _ = some _ := mk.2.2.1.cell 2; have c2_3 : _ = some _ := mk.2.2.1.cell 3; have c2_f := mk.2.2.1.free; have c2_l := mk.2.2.1.lt; clear mk)
              | (go_at_call 30; (with_reducible refine (b_in g a true H8.out V1 _ (by assumption)).mono ?_); rintro e w' ⟨rfl, hx'⟩; (try clear c0_0 c0_1 c0_2 c0_3 c1_0 c1_1 c1_2 c1_3 c2_0 c2_1 c2_2 c2_3 c0_f c1_f c2_f c0_l c1_l c2_l); have mk := MV1.out _ hx'; have c0_0 : _ = some _ := mk.1.cell 0; have c0_1 : _ = some _ := mk.1.cell 1; have c0_2 : _ = some _ := mk.1.cell 2; have c0_3 : _ = some _ := mk.1.cell 3; have c0_f := mk.1.free; have c0_l := mk.1.lt; have c1_0 : _ = some _ := mk.2.1.cell 0; have c1_1 : _ = some _ := mk.2.1.cell 1; have c1_2 : _ = some _ := mk.2.1.cell 2; have c1_3 : _ = some _ := mk.2.1.cell 3; have c1_f := mk.2.1.free; have c1_l := mk.2.1.lt; have c2_0 : _ = some _ := mk.2.2.1.cell 0; have c2_1 : _ = some _ := mk.2.2.1.cell 1; have c2_2 : _ = some _ := mk.2.2.1.cell 2; have c2_3 : _ = some _ := mk.2.2.1.cell 3; have c2_f := mk.2.2.1.free; have c2_l := mk.2.2.1.lt; clear mk)
              | fail)
            go_ret
            exact ⟨rfl, by (refine hx.trans ?_; with_reducible repeat (first | assumption | exact xV1.trans hx' | exact xV1.trans (by assumption) | apply Ext.alloc | apply Ext.drew | (refine Ext.store1 ?_ (by omega) _)))⟩
      · as_aux_lemma =>
          have HD := hide hd
          have HK := hide hk
          clear hd hk
          obtain ⟨W3, hW3⟩ : ∃ W3, W3 = ((w.alloc (.cells #[.int .u64 a.ul, .int .u64 a.uh, .int .i64 a.sl, .int .i64 a.sh] 24)).alloc (.cells #[.int .u64 b.ul, .int .u64 b.uh, .int .i64 b.sl, .int .i64 b.sh] 24)) := ⟨_, rfl⟩
          have x3 : Ext w W3 := by rw [hW3]; exact (((Ext.refl w).alloc _).alloc _)
          have MK := hide (fun w' (h : Ext W3 w') => bk2 (hW3 ▸ h))
          have hx' : Ext W3 W3 := Ext.refl _
          go_enter Try.func5, Try.ntmps5
          go_wp2_with fail
          rw [← hW3]
          clear hW3
          (try clear c0_0 c0_1 c0_2 c0_3 c1_0 c1_1 c1_2 c1_3 c0_f c1_f c0_l c1_l); have mk := MK.out _ hx'; have c0_0 : _ = some _ := mk.1.cell 0; have c0_1 : _ = some _ := mk.1.cell 1; have c0_2 : _ = some _ := mk.1.cell 2; have c0_3 : _ = some _ := mk.1.cell 3; have c0_f := mk.1.free; have c0_l := mk.1.lt; have c1_0 : _ = some _ := mk.2.1.cell 0; have c1_1 : _ = some _ := mk.2.1.cell 1; have c1_2 : _ = some _ := mk.2.1.cell 2; have c1_3 : _ = some _ := mk.2.1.cell 3; have c1_f := mk.2.1.free; have c1_l := mk.2.1.lt; clear mk
          go_wp2_with (first
            | (go_at_call 12; (with_reducible refine (b_has a v _ HA1.out W3 _ (by assumption)).mono ?_); rintro e w' ⟨rfl, hx'⟩; (try clear c0_0 c0_1 c0_2 c0_3 c1_0 c1_1 c1_2 c1_3 c0_f c1_f c0_l c1_l); have mk := MK.out _ hx'; have c0_0 : _ = some _ := mk.1.cell 0; have c0_1 : _ = some _ := mk.1.cell 1; have c0_2 : _ = some _ := mk.1.cell 2; have c0_3 : _ = some _ := mk.1.cell 3; have c0_f := mk.1.free; have c0_l := mk.1.lt; have c1_0 : _ = some _ := mk.2.1.cell 0; have c1_1 : _ = some _ := mk.2.1.cell 1; have c1_2 : _ = some _ := mk.2.1.cell 2; have c1_3 : _ = some _ := mk.2.1.cell 3; have c1_f := mk.2.1.free; have c1_l := mk.2.1.lt; clear mk)
            | (go_at_call 12; (with_reducible refine (b_has b x _ HB1.out W3 _ (by assumption)).mono ?_); rintro e w' ⟨rfl, hx'⟩; (try clear c0_0 c0_1 c0_2 c0_3 c1_0 c1_1 c1_2 c1_3 c0_f c1_f c0_l c1_l); have mk := MK.out _ hx'; have c0_0 : _ = some _ := mk.1.cell 0; have c0_1 : _ = some _ := mk.1.cell 1; have c0_2 : _ = some _ := mk.1.cell 2; have c0_3 : _ = some _ := mk.1.cell 3; have c0_f := mk.1.free; have c0_l := mk.1.lt; have c1_0 : _ = some _ := mk.2.1.cell 0; have c1_1 : _ = some _ := mk.2.1.cell 1; have c1_2 : _ = some _ := mk.2.1.cell 2; have c1_3 : _ = some _ := mk.2.1.cell 3; have c1_f := mk.2.1.free; have c1_l := mk.2.1.lt; clear mk)
            | (go_at_call 36; (with_reducible refine (HD.out _).mono ?_); rintro e w9 ⟨rfl, rfl⟩)
            | (go_at_call 19; (with_reducible refine (b_givenl cc a b g false WA.out WB.out GG.out HK.out W3 _ (by assumption)).mono ?_); rintro e w' ⟨rfl, hx'⟩; (try clear c0_0 c0_1 c0_2 c0_3 c1_0 c1_1 c1_2 c1_3 c0_f c1_f c0_l c1_l); have mk := MK.out _ hx'; have c0_0 : _ = some _ := mk.1.cell 0; have c0_1 : _ = some _ := mk.1.cell 1; have c0_2 : _ = some _ := mk.1.cell 2; have c0_3 : _ = some _ := mk.1.cell 3; have c0_f := mk.1.free; have c0_l := mk.1.lt; have c1_0 : _ = some _ := mk.2.1.cell 0; have c1_1 : _ = some _ := mk.2.1.cell 1; have c1_2 : _ = some _ := mk.2.1.cell 2; have c1_3 : _ = some _ := mk.2.1.cell 3; have c1_f := mk.2.1.free; have c1_l := mk.2.1.lt; clear mk)
            | fail)
          obtain ⟨V1, hV1⟩ : ∃ V1, V1 = (w'.alloc (.cells #[.int .u64 g.ul, .int .u64 g.uh, .int .i64 g.sl, .int .i64 g.sh] 24)) := ⟨_, rfl⟩
          rw [← hV1]
          obtain ⟨b1, hb1⟩ : ∃ b1, b1 = w'.heap.size := ⟨_, rfl⟩
          rw [← hb1]
          have xV1 : Ext w V1 := by rw [hV1]; exact ((x3.trans hx').alloc _)
          have xq : Ext W3 V1 := by rw [hV1]; exact (hx'.alloc _)
          have cn : ∀ w2, Ext V1 w2 → Bk w2 (b1) #[.int .u64 g.ul, .int .u64 g.uh, .int .i64 g.sl, .int .i64 g.sh] 24 := fun w2 h => by rw [hb1]; have hh := bk1 (hV1 ▸ h); exact hh.1
          have MV1 := hide (fun w2 (h : Ext V1 w2) => (⟨cn w2 h, MK.out w2 (xq.trans h)⟩ : Bk w2 (b1) #[.int .u64 g.ul, .int .u64 g.uh, .int .i64 g.sl, .int .i64 g.sh] 24 ∧ _))
          have lb1 : w.heap.size ≤ b1 := by rw [hb1]; exact (x3.trans hx').size
          have n1_0 : w.heap.size < b1 := by rw [hb1]; exact (MK.out _ hx').1.lt
          have n1_1 : w.heap.size + 1 < b1 := by rw [hb1]; exact (MK.out _ hx').2.1.lt
          clear hV1 hb1 xq cn hx'
          (try clear c0_0 c0_1 c0_2 c0_3 c1_0 c1_1 c1_2 c1_3 c0_f c1_f c0_l c1_l)
          have hx' : Ext V1 V1 := Ext.refl _
          (try clear c0_0 c0_1 c0_2 c0_3 c1_0 c1_1 c1_2 c1_3 c2_0 c2_1 c2_2 c2_3 c0_f c1_f c2_f c0_l c1_l c2_l); have mk := MV1.out _ hx'; have c0_0 : _ = some _ := mk.1.cell 0; have c0_1 : _ = some _ := mk.1.cell 1; have c0_2 : _ = some _ := mk.1.cell 2; have c0_3 : _ = some _ := mk.1.cell 3; have c0_f := mk.1.free; have c0_l := mk.1.lt; have c1_0 : _ = some _ := mk.2.1.cell 0; have c1_1 : _ = some _ := mk.2.1.cell 1; have c1_2 : _ = some _ := mk.2.1.cell 2; have c1_3 : _ = some _ := mk.2.1.cell 3; have c1_f := mk.2.1.free; have c1_l := mk.2.1.lt; have c2_0 : _ = some _ := mk.2.2.1.cell 0; have c2_1 : _ = some _ := mk.2.2.1.cell 1; have c2_2 : _ = some _ := mk.2.2.1.cell 2; have c2_3 : _ = some _ := mk.2.2.1.cell 3; have c2_f := mk.2.2.1.free; have c2_l := mk.2.2.1.lt; clear mk
          go_wp2_with (first
            | (go_at_call 14; (with_reducible refine (b_wakes V1 _ (by assumption)).mono ?_); rintro e w' ⟨rfl, hx'⟩; (try clear c0_0 c0_1 c0_2 c0_3 c1_0 c1_1 c1_2 c1_3 c2_0 c2_1 c2_2 c2_3 c0_f c1_f c2_f c0_l c1_l c2_l); have mk := MV1.out _ hx'; have c0_0 : _ = some _ := mk.1.cell 0; have c0_1 : _ = some _ := mk.1.cell 1; have c0_2 : _ = some _ := mk.1.cell 2; have c0_3 : _ = some _ := mk.1.cell 3; have c0_f := mk.1.free; have c0_l := mk.1.lt; have c1_0 : _ = some _ := mk.2.1.cell 0; have c1_1 : _ = some _ := mk.2.1.cell 1; have c1_2 : _ = some _ := mk.2.1.cell 2; have c1_3 : _ = some _ := mk.2.1.cell 3; have c1_f := mk.2.1.free; have c1_l := mk.2.1.lt; have c2_0 : _ = some _ := mk.2.2.1.cell 0; have c2_1 : _ = some _ := mk.2.2.1.cell 1; have c2_2 : _ = some _ := mk.2.2.1.cell 2; have c2_3 : _ = some _ := mk.2.2.1.cell 3; have c2_f := mk.2.2.1.free; have c2_l := mk.2.2.1.lt; clear mk)
            | fail)
          go_ret
          exact ⟨rfl, by (refine hx.trans ?_; with_reducible repeat (first | assumption | exact xV1.trans hx' | exact xV1.trans (by assumption) | apply Ext.alloc | apply Ext.drew | (refine Ext.store1 ?_ (by omega) _)))⟩

set_option maxRecDepth 100000 in
theorem law_BoundsGiven {H : Type} {enc : TypeId × Value → H} {W : World} {r : Reach} {b0 : Nat} (a0 : Int) (w0 : (Lit.int .i8 a0).wf = true)
    (v1 : Value) (k1 : Value.okWide Try.prog W r b0 24 v1) (d1 : DataW H) (p1 : List MemPlace) (h1 : DataW.Trod enc Try.prog W 0 (fun _ => true) true 24 v1 d1 p1) (_ : ∀ x ∈ p1, x.block < W.heap.size)
    (v2 : Value) (k2 : Value.okWide Try.prog W r b0 24 v2) (d2 : DataW H) (p2 : List MemPlace) (h2 : DataW.Trod enc Try.prog W 0 (fun _ => true) true 24 v2 d2 p2) (_ : ∀ x ∈ p2, x.block < W.heap.size)
    (a3 : Int) (w3 : (Lit.int .u64 a3).wf = true)
    (a4 : Int) (w4 : (Lit.int .u64 a4).wf = true) :
    Calls Try.prog 5 #[.int .i8 a0, v1, v2, .int .u64 a3, .int .u64 a4] W fun e W' => e = .returned (.bool true) ∧ Below W.heap.size W W' := by
  obtain ⟨q1, rfl, g1⟩ := Rg.of_arg k1 h1
  obtain ⟨q2, rfl, g2⟩ := Rg.of_arg k2 h2
  exact bg_walk a0 q1 q2 a3 a4 g1 g2 (wf_u64 w3).1 (wf_u64 w3).2 (wf_u64 w4).1 (wf_u64 w4).2 W W (Ext.refl W)
end Go.Proofs.Ytcngfmhhaleoaaa
