/- Given of package bounds. -/
import Derived.Test.YtcngfmhhaleoaaaBdGa
import Derived.Test.YtcngfmhhaleoaaaBdGb
import Derived.Test.YtcngfmhhaleoaaaBdGc
import Derived.Test.YtcngfmhhaleoaaaBdGd
import Derived.Test.YtcngfmhhaleoaaaBdGe
import Derived.Deep.RegionHeld3
import Derived.Deep.RegionWith
import Derived.Deep.DeepCutAuto
import Derived.Deep.CutBlock
set_option linter.unusedVariables false
set_option linter.unusedSimpArgs false
namespace Go.Proofs.Ytcngfmhhaleoaaa
open Go.RowKit Go.ChangeShapes Go.WideShapes

set_option maxRecDepth 100000 in
set_option maxHeartbeats 16000000 in
theorem b_given (cc : Int) (a b : Rg) (ha : a.wf) (hb : b.wf) (W w : World) (hx : Ext W w) :
    Calls Try.prog 19 #[.int .i8 cc, .agg #[.int .u64 a.ul, .int .u64 a.uh, .int .i64 a.sl, .int .i64 a.sh], .agg #[.int .u64 b.ul, .int .u64 b.uh, .int .i64 b.sl, .int .i64 b.sh]] w fun e w' => e = .returned (.tuple #[.agg #[.int .u64 (bgiv cc a b).ul, .int .u64 (bgiv cc a b).uh, .int .i64 (bgiv cc a b).sl, .int .i64 (bgiv cc a b).sh], .bool (bgok cc a b)]) ∧ Ext W w' := by
  have hc : bmay a = false ∨ (bmay a = true ∧ bmay b = false) ∨ (bmay a = true ∧ bmay b = true ∧ cc < 0) ∨ (bmay a = true ∧ bmay b = true ∧ 0 ≤ cc ∧ 10 < cc) ∨ (bmay a = true ∧ bmay b = true ∧ 0 ≤ cc ∧ cc ≤ 10) := by
    cases bmay a <;> cases bmay b <;> simp <;> omega
  rcases hc with h1 | ⟨h1, h2⟩ | ⟨h1, h2, h3⟩ | ⟨h1, h2, h3, h4⟩ | ⟨h1, h2, h3, h4⟩
  · as_aux_lemma =>
      have G0 : Hid (bgood cc a b = false) := hide (by unfold bgood; rw [h1]; rfl)
      have H1 := hide h1
      clear h1
      obtain ⟨W3, hW3⟩ : ∃ W3, W3 = (((w.alloc (.cells #[.int .u64 a.ul, .int .u64 a.uh, .int .i64 a.sl, .int .i64 a.sh] 24)).alloc (.cells #[.int .u64 b.ul, .int .u64 b.uh, .int .i64 b.sl, .int .i64 b.sh] 24)).alloc (.cells #[.int .u64 0, .int .u64 0, .int .i64 0, .int .i64 0] 24)) := ⟨_, rfl⟩
      have x3 : Ext w W3 := by rw [hW3]; exact ((((Ext.refl w).alloc _).alloc _).alloc _)
      have MK := hide (fun w' (h : Ext W3 w') => bk3 (hW3 ▸ h))
      have hx' : Ext W3 W3 := Ext.refl _
      go_enter Try.func19, Try.ntmps19
      go_wp2_with fail
      rw [← hW3]
      clear hW3
      (try clear c0_0 c0_1 c0_2 c0_3 c1_0 c1_1 c1_2 c1_3 c2_0 c2_1 c2_2 c2_3 c0_f c1_f c2_f c0_l c1_l c2_l); have mk := MK.out _ hx'; have c0_0 : _ = some _ := mk.1.cell 0; have c0_1 : _ = some _ := mk.1.cell 1; have c0_2 : _ = some _ := mk.1.cell 2; have c0_3 : _ = some _ := mk.1.cell 3; have c0_f := mk.1.free; have c0_l := mk.1.lt; have c1_0 : _ = some _ := mk.2.1.cell 0; have c1_1 : _ = some _ := mk.2.1.cell 1; have c1_2 : _ = some _ := mk.2.1.cell 2; have c1_3 : _ = some _ := mk.2.1.cell 3; have c1_f := mk.2.1.free; have c1_l := mk.2.1.lt; have c2_0 : _ = some _ := mk.2.2.1.cell 0; have c2_1 : _ = some _ := mk.2.2.1.cell 1; have c2_2 : _ = some _ := mk.2.2.1.cell 2; have c2_3 : _ = some _ := mk.2.2.1.cell 3; have c2_f := mk.2.2.1.free; have c2_l := mk.2.2.1.lt; clear mk
      go_wp2_with (first
        | (go_at_call 16; (with_reducible refine (b_may a _ H1.out W3 _ (by assumption)).mono ?_); rintro e w' ⟨rfl, hx'⟩; (try clear c0_0 c0_1 c0_2 c0_3 c1_0 c1_1 c1_2 c1_3 c2_0 c2_1 c2_2 c2_3 c0_f c1_f c2_f c0_l c1_l c2_l); have mk := MK.out _ hx'; have c0_0 : _ = some _ := mk.1.cell 0; have c0_1 : _ = some _ := mk.1.cell 1; have c0_2 : _ = some _ := mk.1.cell 2; have c0_3 : _ = some _ := mk.1.cell 3; have c0_f := mk.1.free; have c0_l := mk.1.lt; have c1_0 : _ = some _ := mk.2.1.cell 0; have c1_1 : _ = some _ := mk.2.1.cell 1; have c1_2 : _ = some _ := mk.2.1.cell 2; have c1_3 : _ = some _ := mk.2.1.cell 3; have c1_f := mk.2.1.free; have c1_l := mk.2.1.lt; have c2_0 : _ = some _ := mk.2.2.1.cell 0; have c2_1 : _ = some _ := mk.2.2.1.cell 1; have c2_2 : _ = some _ := mk.2.2.1.cell 2; have c2_3 : _ = some _ := mk.2.2.1.cell 3; have c2_f := mk.2.2.1.free; have c2_l := mk.2.2.1.lt; clear mk)
        | (go_at_call 13; (with_reducible refine (b_all W3 _ (by assumption)).mono ?_); rintro e w' ⟨rfl, hx'⟩; (try clear c0_0 c0_1 c0_2 c0_3 c1_0 c1_1 c1_2 c1_3 c2_0 c2_1 c2_2 c2_3 c0_f c1_f c2_f c0_l c1_l c2_l); have mk := MK.out _ hx'; have c0_0 : _ = some _ := mk.1.cell 0; have c0_1 : _ = some _ := mk.1.cell 1; have c0_2 : _ = some _ := mk.1.cell 2; have c0_3 : _ = some _ := mk.1.cell 3; have c0_f := mk.1.free; have c0_l := mk.1.lt; have c1_0 : _ = some _ := mk.2.1.cell 0; have c1_1 : _ = some _ := mk.2.1.cell 1; have c1_2 : _ = some _ := mk.2.1.cell 2; have c1_3 : _ = some _ := mk.2.1.cell 3; have c1_f := mk.2.1.free; have c1_l := mk.2.1.lt; have c2_0 : _ = some _ := mk.2.2.1.cell 0; have c2_1 : _ = some _ := mk.2.2.1.cell 1; have c2_2 : _ = some _ := mk.2.2.1.cell 2; have c2_3 : _ = some _ := mk.2.2.1.cell 3; have c2_f := mk.2.2.1.free; have c2_l := mk.2.2.1.lt; clear mk)
        | fail)
      exact bodyPost_ret (v := .tuple #[.agg #[.int .u64 ball.ul, .int .u64 ball.uh, .int .i64 ball.sl, .int .i64 ball.sh], .bool false]) (by simp [results, Try.results19, go_sem, c2_0, c2_1, c2_2, c2_3, c2_l, Nat.ne_of_lt c2_l, Nat.ne_of_gt c2_l] <;> (first | exact ⟨rfl, rfl⟩ | exact ⟨rfl, rfl, rfl, rfl⟩ | exact ⟨⟨rfl, rfl, rfl, rfl⟩, rfl⟩ | exact ⟨rfl, rfl, rfl, rfl, rfl⟩ | rfl)) rfl ⟨by rw [(bgiv_not (.inl G0.out)).1, (bgiv_not (.inl G0.out)).2], by (refine hx.trans ?_; with_reducible repeat (first | assumption | exact x3.trans hx' | exact x3.trans (by assumption) | apply Ext.alloc | apply Ext.drew | (refine Ext.store1 ?_ (by omega) _)))⟩
  · as_aux_lemma =>
      have G0 : Hid (bgood cc a b = false) := hide (by unfold bgood; rw [h1, h2]; rfl)
      have H1 := hide h1
      have H2 := hide h2
      clear h1 h2
      obtain ⟨W3, hW3⟩ : ∃ W3, W3 = (((w.alloc (.cells #[.int .u64 a.ul, .int .u64 a.uh, .int .i64 a.sl, .int .i64 a.sh] 24)).alloc (.cells #[.int .u64 b.ul, .int .u64 b.uh, .int .i64 b.sl, .int .i64 b.sh] 24)).alloc (.cells #[.int .u64 0, .int .u64 0, .int .i64 0, .int .i64 0] 24)) := ⟨_, rfl⟩
      have x3 : Ext w W3 := by rw [hW3]; exact ((((Ext.refl w).alloc _).alloc _).alloc _)
      have MK := hide (fun w' (h : Ext W3 w') => bk3 (hW3 ▸ h))
      have hx' : Ext W3 W3 := Ext.refl _
      go_enter Try.func19, Try.ntmps19
      go_wp2_with fail
      rw [← hW3]
      clear hW3
      (try clear c0_0 c0_1 c0_2 c0_3 c1_0 c1_1 c1_2 c1_3 c2_0 c2_1 c2_2 c2_3 c0_f c1_f c2_f c0_l c1_l c2_l); have mk := MK.out _ hx'; have c0_0 : _ = some _ := mk.1.cell 0; have c0_1 : _ = some _ := mk.1.cell 1; have c0_2 : _ = some _ := mk.1.cell 2; have c0_3 : _ = some _ := mk.1.cell 3; have c0_f := mk.1.free; have c0_l := mk.1.lt; have c1_0 : _ = some _ := mk.2.1.cell 0; have c1_1 : _ = some _ := mk.2.1.cell 1; have c1_2 : _ = some _ := mk.2.1.cell 2; have c1_3 : _ = some _ := mk.2.1.cell 3; have c1_f := mk.2.1.free; have c1_l := mk.2.1.lt; have c2_0 : _ = some _ := mk.2.2.1.cell 0; have c2_1 : _ = some _ := mk.2.2.1.cell 1; have c2_2 : _ = some _ := mk.2.2.1.cell 2; have c2_3 : _ = some _ := mk.2.2.1.cell 3; have c2_f := mk.2.2.1.free; have c2_l := mk.2.2.1.lt; clear mk
      go_wp2_with (first
        | (go_at_call 16; (with_reducible refine (b_may a _ H1.out W3 _ (by assumption)).mono ?_); rintro e w' ⟨rfl, hx'⟩; (try clear c0_0 c0_1 c0_2 c0_3 c1_0 c1_1 c1_2 c1_3 c2_0 c2_1 c2_2 c2_3 c0_f c1_f c2_f c0_l c1_l c2_l); have mk := MK.out _ hx'; have c0_0 : _ = some _ := mk.1.cell 0; have c0_1 : _ = some _ := mk.1.cell 1; have c0_2 : _ = some _ := mk.1.cell 2; have c0_3 : _ = some _ := mk.1.cell 3; have c0_f := mk.1.free; have c0_l := mk.1.lt; have c1_0 : _ = some _ := mk.2.1.cell 0; have c1_1 : _ = some _ := mk.2.1.cell 1; have c1_2 : _ = some _ := mk.2.1.cell 2; have c1_3 : _ = some _ := mk.2.1.cell 3; have c1_f := mk.2.1.free; have c1_l := mk.2.1.lt; have c2_0 : _ = some _ := mk.2.2.1.cell 0; have c2_1 : _ = some _ := mk.2.2.1.cell 1; have c2_2 : _ = some _ := mk.2.2.1.cell 2; have c2_3 : _ = some _ := mk.2.2.1.cell 3; have c2_f := mk.2.2.1.free; have c2_l := mk.2.2.1.lt; clear mk)
        | (go_at_call 16; (with_reducible refine (b_may b _ H2.out W3 _ (by assumption)).mono ?_); rintro e w' ⟨rfl, hx'⟩; (try clear c0_0 c0_1 c0_2 c0_3 c1_0 c1_1 c1_2 c1_3 c2_0 c2_1 c2_2 c2_3 c0_f c1_f c2_f c0_l c1_l c2_l); have mk := MK.out _ hx'; have c0_0 : _ = some _ := mk.1.cell 0; have c0_1 : _ = some _ := mk.1.cell 1; have c0_2 : _ = some _ := mk.1.cell 2; have c0_3 : _ = some _ := mk.1.cell 3; have c0_f := mk.1.free; have c0_l := mk.1.lt; have c1_0 : _ = some _ := mk.2.1.cell 0; have c1_1 : _ = some _ := mk.2.1.cell 1; have c1_2 : _ = some _ := mk.2.1.cell 2; have c1_3 : _ = some _ := mk.2.1.cell 3; have c1_f := mk.2.1.free; have c1_l := mk.2.1.lt; have c2_0 : _ = some _ := mk.2.2.1.cell 0; have c2_1 : _ = some _ := mk.2.2.1.cell 1; have c2_2 : _ = some _ := mk.2.2.1.cell 2; have c2_3 : _ = some _ := mk.2.2.1.cell 3; have c2_f := mk.2.2.1.free; have c2_l := mk.2.2.1.lt; clear mk)
        | (go_at_call 13; (with_reducible refine (b_all W3 _ (by assumption)).mono ?_); rintro e w' ⟨rfl, hx'⟩; (try clear c0_0 c0_1 c0_2 c0_3 c1_0 c1_1 c1_2 c1_3 c2_0 c2_1 c2_2 c2_3 c0_f c1_f c2_f c0_l c1_l c2_l); have mk := MK.out _ hx'; have c0_0 : _ = some _ := mk.1.cell 0; have c0_1 : _ = some _ := mk.1.cell 1; have c0_2 : _ = some _ := mk.1.cell 2; have c0_3 : _ = some _ := mk.1.cell 3; have c0_f := mk.1.free; have c0_l := mk.1.lt; have c1_0 : _ = some _ := mk.2.1.cell 0; have c1_1 : _ = some _ := mk.2.1.cell 1; have c1_2 : _ = some _ := mk.2.1.cell 2; have c1_3 : _ = some _ := mk.2.1.cell 3; have c1_f := mk.2.1.free; have c1_l := mk.2.1.lt; have c2_0 : _ = some _ := mk.2.2.1.cell 0; have c2_1 : _ = some _ := mk.2.2.1.cell 1; have c2_2 : _ = some _ := mk.2.2.1.cell 2; have c2_3 : _ = some _ := mk.2.2.1.cell 3; have c2_f := mk.2.2.1.free; have c2_l := mk.2.2.1.lt; clear mk)
        | fail)
      exact bodyPost_ret (v := .tuple #[.agg #[.int .u64 ball.ul, .int .u64 ball.uh, .int .i64 ball.sl, .int .i64 ball.sh], .bool false]) (by simp [results, Try.results19, go_sem, c2_0, c2_1, c2_2, c2_3, c2_l, Nat.ne_of_lt c2_l, Nat.ne_of_gt c2_l] <;> (first | exact ⟨rfl, rfl⟩ | exact ⟨rfl, rfl, rfl, rfl⟩ | exact ⟨⟨rfl, rfl, rfl, rfl⟩, rfl⟩ | exact ⟨rfl, rfl, rfl, rfl, rfl⟩ | rfl)) rfl ⟨by rw [(bgiv_not (.inl G0.out)).1, (bgiv_not (.inl G0.out)).2], by (refine hx.trans ?_; with_reducible repeat (first | assumption | exact x3.trans hx' | exact x3.trans (by assumption) | apply Ext.alloc | apply Ext.drew | (refine Ext.store1 ?_ (by omega) _)))⟩
  · as_aux_lemma =>
      have G0 : Hid (bgood cc a b = false) := hide (by unfold bgood; rw [h1, h2, decide_eq_false (by omega : ¬ (0 ≤ cc))]; rfl)
      have H1 := hide h1
      have H2 := hide h2
      clear h1 h2
      obtain ⟨W3, hW3⟩ : ∃ W3, W3 = (((w.alloc (.cells #[.int .u64 a.ul, .int .u64 a.uh, .int .i64 a.sl, .int .i64 a.sh] 24)).alloc (.cells #[.int .u64 b.ul, .int .u64 b.uh, .int .i64 b.sl, .int .i64 b.sh] 24)).alloc (.cells #[.int .u64 0, .int .u64 0, .int .i64 0, .int .i64 0] 24)) := ⟨_, rfl⟩
      have x3 : Ext w W3 := by rw [hW3]; exact ((((Ext.refl w).alloc _).alloc _).alloc _)
      have MK := hide (fun w' (h : Ext W3 w') => bk3 (hW3 ▸ h))
      have hx' : Ext W3 W3 := Ext.refl _
      go_enter Try.func19, Try.ntmps19
      go_wp2_with fail
      rw [← hW3]
      clear hW3
      (try clear c0_0 c0_1 c0_2 c0_3 c1_0 c1_1 c1_2 c1_3 c2_0 c2_1 c2_2 c2_3 c0_f c1_f c2_f c0_l c1_l c2_l); have mk := MK.out _ hx'; have c0_0 : _ = some _ := mk.1.cell 0; have c0_1 : _ = some _ := mk.1.cell 1; have c0_2 : _ = some _ := mk.1.cell 2; have c0_3 : _ = some _ := mk.1.cell 3; have c0_f := mk.1.free; have c0_l := mk.1.lt; have c1_0 : _ = some _ := mk.2.1.cell 0; have c1_1 : _ = some _ := mk.2.1.cell 1; have c1_2 : _ = some _ := mk.2.1.cell 2; have c1_3 : _ = some _ := mk.2.1.cell 3; have c1_f := mk.2.1.free; have c1_l := mk.2.1.lt; have c2_0 : _ = some _ := mk.2.2.1.cell 0; have c2_1 : _ = some _ := mk.2.2.1.cell 1; have c2_2 : _ = some _ := mk.2.2.1.cell 2; have c2_3 : _ = some _ := mk.2.2.1.cell 3; have c2_f := mk.2.2.1.free; have c2_l := mk.2.2.1.lt; clear mk
      go_wp2_with (first
        | (go_at_call 16; (with_reducible refine (b_may a _ H1.out W3 _ (by assumption)).mono ?_); rintro e w' ⟨rfl, hx'⟩; (try clear c0_0 c0_1 c0_2 c0_3 c1_0 c1_1 c1_2 c1_3 c2_0 c2_1 c2_2 c2_3 c0_f c1_f c2_f c0_l c1_l c2_l); have mk := MK.out _ hx'; have c0_0 : _ = some _ := mk.1.cell 0; have c0_1 : _ = some _ := mk.1.cell 1; have c0_2 : _ = some _ := mk.1.cell 2; have c0_3 : _ = some _ := mk.1.cell 3; have c0_f := mk.1.free; have c0_l := mk.1.lt; have c1_0 : _ = some _ := mk.2.1.cell 0; have c1_1 : _ = some _ := mk.2.1.cell 1; have c1_2 : _ = some _ := mk.2.1.cell 2; have c1_3 : _ = some _ := mk.2.1.cell 3; have c1_f := mk.2.1.free; have c1_l := mk.2.1.lt; have c2_0 : _ = some _ := mk.2.2.1.cell 0; have c2_1 : _ = some _ := mk.2.2.1.cell 1; have c2_2 : _ = some _ := mk.2.2.1.cell 2; have c2_3 : _ = some _ := mk.2.2.1.cell 3; have c2_f := mk.2.2.1.free; have c2_l := mk.2.2.1.lt; clear mk)
        | (go_at_call 16; (with_reducible refine (b_may b _ H2.out W3 _ (by assumption)).mono ?_); rintro e w' ⟨rfl, hx'⟩; (try clear c0_0 c0_1 c0_2 c0_3 c1_0 c1_1 c1_2 c1_3 c2_0 c2_1 c2_2 c2_3 c0_f c1_f c2_f c0_l c1_l c2_l); have mk := MK.out _ hx'; have c0_0 : _ = some _ := mk.1.cell 0; have c0_1 : _ = some _ := mk.1.cell 1; have c0_2 : _ = some _ := mk.1.cell 2; have c0_3 : _ = some _ := mk.1.cell 3; have c0_f := mk.1.free; have c0_l := mk.1.lt; have c1_0 : _ = some _ := mk.2.1.cell 0; have c1_1 : _ = some _ := mk.2.1.cell 1; have c1_2 : _ = some _ := mk.2.1.cell 2; have c1_3 : _ = some _ := mk.2.1.cell 3; have c1_f := mk.2.1.free; have c1_l := mk.2.1.lt; have c2_0 : _ = some _ := mk.2.2.1.cell 0; have c2_1 : _ = some _ := mk.2.2.1.cell 1; have c2_2 : _ = some _ := mk.2.2.1.cell 2; have c2_3 : _ = some _ := mk.2.2.1.cell 3; have c2_f := mk.2.2.1.free; have c2_l := mk.2.2.1.lt; clear mk)
        | (go_at_call 13; (with_reducible refine (b_all W3 _ (by assumption)).mono ?_); rintro e w' ⟨rfl, hx'⟩; (try clear c0_0 c0_1 c0_2 c0_3 c1_0 c1_1 c1_2 c1_3 c2_0 c2_1 c2_2 c2_3 c0_f c1_f c2_f c0_l c1_l c2_l); have mk := MK.out _ hx'; have c0_0 : _ = some _ := mk.1.cell 0; have c0_1 : _ = some _ := mk.1.cell 1; have c0_2 : _ = some _ := mk.1.cell 2; have c0_3 : _ = some _ := mk.1.cell 3; have c0_f := mk.1.free; have c0_l := mk.1.lt; have c1_0 : _ = some _ := mk.2.1.cell 0; have c1_1 : _ = some _ := mk.2.1.cell 1; have c1_2 : _ = some _ := mk.2.1.cell 2; have c1_3 : _ = some _ := mk.2.1.cell 3; have c1_f := mk.2.1.free; have c1_l := mk.2.1.lt; have c2_0 : _ = some _ := mk.2.2.1.cell 0; have c2_1 : _ = some _ := mk.2.2.1.cell 1; have c2_2 : _ = some _ := mk.2.2.1.cell 2; have c2_3 : _ = some _ := mk.2.2.1.cell 3; have c2_f := mk.2.2.1.free; have c2_l := mk.2.2.1.lt; clear mk)
        | fail)
      exact bodyPost_ret (v := .tuple #[.agg #[.int .u64 ball.ul, .int .u64 ball.uh, .int .i64 ball.sl, .int .i64 ball.sh], .bool false]) (by simp [results, Try.results19, go_sem, c2_0, c2_1, c2_2, c2_3, c2_l, Nat.ne_of_lt c2_l, Nat.ne_of_gt c2_l] <;> (first | exact ⟨rfl, rfl⟩ | exact ⟨rfl, rfl, rfl, rfl⟩ | exact ⟨⟨rfl, rfl, rfl, rfl⟩, rfl⟩ | exact ⟨rfl, rfl, rfl, rfl, rfl⟩ | rfl)) rfl ⟨by rw [(bgiv_not (.inl G0.out)).1, (bgiv_not (.inl G0.out)).2], by (refine hx.trans ?_; with_reducible repeat (first | assumption | exact x3.trans hx' | exact x3.trans (by assumption) | apply Ext.alloc | apply Ext.drew | (refine Ext.store1 ?_ (by omega) _)))⟩
  · as_aux_lemma =>
      have G0 : Hid (bgood cc a b = false) := hide (by unfold bgood; rw [h1, h2, decide_eq_false (by omega : ¬ (cc ≤ 10))]; simp)
      have H1 := hide h1
      have H2 := hide h2
      have h5 : ¬ cc < 0 := by omega
      clear h1 h2
      obtain ⟨W3, hW3⟩ : ∃ W3, W3 = (((w.alloc (.cells #[.int .u64 a.ul, .int .u64 a.uh, .int .i64 a.sl, .int .i64 a.sh] 24)).alloc (.cells #[.int .u64 b.ul, .int .u64 b.uh, .int .i64 b.sl, .int .i64 b.sh] 24)).alloc (.cells #[.int .u64 0, .int .u64 0, .int .i64 0, .int .i64 0] 24)) := ⟨_, rfl⟩
      have x3 : Ext w W3 := by rw [hW3]; exact ((((Ext.refl w).alloc _).alloc _).alloc _)
      have MK := hide (fun w' (h : Ext W3 w') => bk3 (hW3 ▸ h))
      have hx' : Ext W3 W3 := Ext.refl _
      go_enter Try.func19, Try.ntmps19
      go_wp2_with fail
      rw [← hW3]
      clear hW3
      (try clear c0_0 c0_1 c0_2 c0_3 c1_0 c1_1 c1_2 c1_3 c2_0 c2_1 c2_2 c2_3 c0_f c1_f c2_f c0_l c1_l c2_l); have mk := MK.out _ hx'; have c0_0 : _ = some _ := mk.1.cell 0; have c0_1 : _ = some _ := mk.1.cell 1; have c0_2 : _ = some _ := mk.1.cell 2; have c0_3 : _ = some _ := mk.1.cell 3; have c0_f := mk.1.free; have c0_l := mk.1.lt; have c1_0 : _ = some _ := mk.2.1.cell 0; have c1_1 : _ = some _ := mk.2.1.cell 1; have c1_2 : _ = some _ := mk.2.1.cell 2; have c1_3 : _ = some _ := mk.2.1.cell 3; have c1_f := mk.2.1.free; have c1_l := mk.2.1.lt; have c2_0 : _ = some _ := mk.2.2.1.cell 0; have c2_1 : _ = some _ := mk.2.2.1.cell 1; have c2_2 : _ = some _ := mk.2.2.1.cell 2; have c2_3 : _ = some _ := mk.2.2.1.cell 3; have c2_f := mk.2.2.1.free; have c2_l := mk.2.2.1.lt; clear mk
      go_wp2_with (first
        | (go_at_call 16; (with_reducible refine (b_may a _ H1.out W3 _ (by assumption)).mono ?_); rintro e w' ⟨rfl, hx'⟩; (try clear c0_0 c0_1 c0_2 c0_3 c1_0 c1_1 c1_2 c1_3 c2_0 c2_1 c2_2 c2_3 c0_f c1_f c2_f c0_l c1_l c2_l); have mk := MK.out _ hx'; have c0_0 : _ = some _ := mk.1.cell 0; have c0_1 : _ = some _ := mk.1.cell 1; have c0_2 : _ = some _ := mk.1.cell 2; have c0_3 : _ = some _ := mk.1.cell 3; have c0_f := mk.1.free; have c0_l := mk.1.lt; have c1_0 : _ = some _ := mk.2.1.cell 0; have c1_1 : _ = some _ := mk.2.1.cell 1; have c1_2 : _ = some _ := mk.2.1.cell 2; have c1_3 : _ = some _ := mk.2.1.cell 3; have c1_f := mk.2.1.free; have c1_l := mk.2.1.lt; have c2_0 : _ = some _ := mk.2.2.1.cell 0; have c2_1 : _ = some _ := mk.2.2.1.cell 1; have c2_2 : _ = some _ := mk.2.2.1.cell 2; have c2_3 : _ = some _ := mk.2.2.1.cell 3; have c2_f := mk.2.2.1.free; have c2_l := mk.2.2.1.lt; clear mk)
        | (go_at_call 16; (with_reducible refine (b_may b _ H2.out W3 _ (by assumption)).mono ?_); rintro e w' ⟨rfl, hx'⟩; (try clear c0_0 c0_1 c0_2 c0_3 c1_0 c1_1 c1_2 c1_3 c2_0 c2_1 c2_2 c2_3 c0_f c1_f c2_f c0_l c1_l c2_l); have mk := MK.out _ hx'; have c0_0 : _ = some _ := mk.1.cell 0; have c0_1 : _ = some _ := mk.1.cell 1; have c0_2 : _ = some _ := mk.1.cell 2; have c0_3 : _ = some _ := mk.1.cell 3; have c0_f := mk.1.free; have c0_l := mk.1.lt; have c1_0 : _ = some _ := mk.2.1.cell 0; have c1_1 : _ = some _ := mk.2.1.cell 1; have c1_2 : _ = some _ := mk.2.1.cell 2; have c1_3 : _ = some _ := mk.2.1.cell 3; have c1_f := mk.2.1.free; have c1_l := mk.2.1.lt; have c2_0 : _ = some _ := mk.2.2.1.cell 0; have c2_1 : _ = some _ := mk.2.2.1.cell 1; have c2_2 : _ = some _ := mk.2.2.1.cell 2; have c2_3 : _ = some _ := mk.2.2.1.cell 3; have c2_f := mk.2.2.1.free; have c2_l := mk.2.2.1.lt; clear mk)
        | (go_at_call 13; (with_reducible refine (b_all W3 _ (by assumption)).mono ?_); rintro e w' ⟨rfl, hx'⟩; (try clear c0_0 c0_1 c0_2 c0_3 c1_0 c1_1 c1_2 c1_3 c2_0 c2_1 c2_2 c2_3 c0_f c1_f c2_f c0_l c1_l c2_l); have mk := MK.out _ hx'; have c0_0 : _ = some _ := mk.1.cell 0; have c0_1 : _ = some _ := mk.1.cell 1; have c0_2 : _ = some _ := mk.1.cell 2; have c0_3 : _ = some _ := mk.1.cell 3; have c0_f := mk.1.free; have c0_l := mk.1.lt; have c1_0 : _ = some _ := mk.2.1.cell 0; have c1_1 : _ = some _ := mk.2.1.cell 1; have c1_2 : _ = some _ := mk.2.1.cell 2; have c1_3 : _ = some _ := mk.2.1.cell 3; have c1_f := mk.2.1.free; have c1_l := mk.2.1.lt; have c2_0 : _ = some _ := mk.2.2.1.cell 0; have c2_1 : _ = some _ := mk.2.2.1.cell 1; have c2_2 : _ = some _ := mk.2.2.1.cell 2; have c2_3 : _ = some _ := mk.2.2.1.cell 3; have c2_f := mk.2.2.1.free; have c2_l := mk.2.2.1.lt; clear mk)
        | fail)
      exact bodyPost_ret (v := .tuple #[.agg #[.int .u64 ball.ul, .int .u64 ball.uh, .int .i64 ball.sl, .int .i64 ball.sh], .bool false]) (by simp [results, Try.results19, go_sem, c2_0, c2_1, c2_2, c2_3, c2_l, Nat.ne_of_lt c2_l, Nat.ne_of_gt c2_l] <;> (first | exact ⟨rfl, rfl⟩ | exact ⟨rfl, rfl, rfl, rfl⟩ | exact ⟨⟨rfl, rfl, rfl, rfl⟩, rfl⟩ | exact ⟨rfl, rfl, rfl, rfl, rfl⟩ | rfl)) rfl ⟨by rw [(bgiv_not (.inl G0.out)).1, (bgiv_not (.inl G0.out)).2], by (refine hx.trans ?_; with_reducible repeat (first | assumption | exact x3.trans hx' | exact x3.trans (by assumption) | apply Ext.alloc | apply Ext.drew | (refine Ext.store1 ?_ (by omega) _)))⟩
  · rcases (show (cc = 0 ∨ cc = 1 ∨ cc = 10) ∨ (cc = 2 ∨ cc = 3) ∨ (cc = 4 ∨ cc = 5) ∨ (cc = 6 ∨ cc = 7) ∨ (cc = 8 ∨ cc = 9) by omega) with h | h | h | h | h
    · exact b_given_a cc a b h ha hb h1 h2 W w hx
    · exact b_given_b cc a b h ha hb h1 h2 W w hx
    · exact b_given_c cc a b h ha hb h1 h2 W w hx
    · exact b_given_d cc a b h ha hb h1 h2 W w hx
    · exact b_given_e cc a b h ha hb h1 h2 W w hx

theorem b_givenl (cc : Int) (a b g : Rg) (t : Bool) (ha : a.wf) (hb : b.wf) (h : bgiv cc a b = g) (ht : bgok cc a b = t) (W w : World) (hx : Ext W w) :
    Calls Try.prog 19 #[.int .i8 cc, .agg #[.int .u64 a.ul, .int .u64 a.uh, .int .i64 a.sl, .int .i64 a.sh], .agg #[.int .u64 b.ul, .int .u64 b.uh, .int .i64 b.sl, .int .i64 b.sh]] w fun e w' => e = .returned (.tuple #[.agg #[.int .u64 g.ul, .int .u64 g.uh, .int .i64 g.sl, .int .i64 g.sh], .bool t]) ∧ Ext W w' := by
  rw [← h, ← ht]
  exact b_given cc a b ha hb W w hx
end Go.Proofs.Ytcngfmhhaleoaaa
