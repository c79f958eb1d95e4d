/- The walk of the law BoundsNarrow. -/
import Derived.Test.YtcngfmhhaleoaaaBdK
import Derived.Test.YtcngfmhhaleoaaaRep
import Derived.Test.YtcngfmhhaleoaaaHeld
import Derived.Deep.RegionHeld3
import Derived.Deep.RegionWith
import Derived.Deep.DeepCutAuto
import Derived.Deep.CutBlock
set_option linter.unusedVariables false
set_option linter.unusedSimpArgs false
namespace Go.Proofs.Ytcngfmhhaleoaaa
open Go.RowKit Go.ChangeShapes Go.WideShapes

def repU64b : Rep Try.prog 22 Int := Rep.int .u64 Try.underlying22 (by kernel_rfl)
def repI64b : Rep Try.prog 2 Int := Rep.int .i64 Try.underlying2 (by kernel_rfl)
def repRg : Rep Try.prog 24 Rg :=
  Rep.map (Rep.struct (RepSeq.cons repU64b rfl (RepSeq.cons repU64b rfl (RepSeq.cons repI64b rfl (RepSeq.cons repI64b rfl (RepSeq.nil _ _))))) Try.underlying24 (by kernel_rfl)) (fun x => ⟨x.1, x.2.1, x.2.2.1, x.2.2.2.1⟩)
set_option maxRecDepth 100000 in
theorem Rg.of_arg {H : Type} {enc : TypeId × Value → H} {W : World} {r : Reach} {b0 : Nat} {v : Value} {d : DataW H} {p : List MemPlace}
    (hv : Value.okWide Try.prog W r b0 24 v) (h : DataW.Trod enc Try.prog W 0 (fun _ => true) true 24 v d p) : ∃ a : Rg, v = .agg #[.int .u64 a.ul, .int .u64 a.uh, .int .i64 a.sl, .int .i64 a.sh] ∧ a.wf := by
  obtain ⟨x, hx⟩ := repRg.arg h
  obtain ⟨cs, rfl, _⟩ := okWide_struct Try.underlying24 hv
  obtain ⟨y, rfl, c1, c2, hcs, ⟨rfl, w1⟩, c3, c4, rfl, ⟨rfl, w2⟩, c5, c6, rfl, ⟨rfl, w3⟩, c7, c8, rfl, ⟨rfl, w4⟩, hnil⟩ := hx
  obtain rfl : c8 = [] := hnil
  refine ⟨⟨y.1, y.2.1, y.2.2.1, y.2.2.2.1⟩, ?_, wf_u64 w1, wf_u64 w2, wf_i64 w3, wf_i64 w4⟩
  have : cs.toList = [Value.int .u64 y.1, Value.int .u64 y.2.1, Value.int .i64 y.2.2.1, Value.int .i64 y.2.2.2.1] := by simpa [Value.cells] using hcs
  rw [← Array.toArray_toList (xs := cs), this]

theorem b_narl (a r : Rg) (t : Bool) (ha : a.wf) (h : bnar a = r) (ht : bnok a = t) (W w : World) (hx : Ext W w) :
    Calls Try.prog 11 #[.agg #[.int .u64 a.ul, .int .u64 a.uh, .int .i64 a.sl, .int .i64 a.sh]] w fun e w' => e = .returned (.tuple #[.agg #[.int .u64 r.ul, .int .u64 r.uh, .int .i64 r.sl, .int .i64 r.sh], .bool t]) ∧ Ext W w' := by
  rw [← h, ← ht]
  exact b_nar a ha W w hx
theorem b_sngl (a : Rg) (v : Int) (t : Bool) (hv : bsingle a = v) (ht : bones a = t) (W w : World) (hx : Ext W w) :
    Calls Try.prog 15 #[.agg #[.int .u64 a.ul, .int .u64 a.uh, .int .i64 a.sl, .int .i64 a.sh]] w fun e w' => e = .returned (.tuple #[.int .u64 v, .bool t]) ∧ Ext W w' := by
  rw [← hv, ← ht]
  exact b_single a W w hx

set_option maxRecDepth 100000 in
set_option maxHeartbeats 16000000 in
theorem bn_walk (a : Rg) (v : Int) (ha : a.wf) (v0 : 0 ≤ v) (v1 : v ≤ 18446744073709551615) (W w : World) (hx : Ext W w) :
    Calls Try.prog 3 #[.agg #[.int .u64 a.ul, .int .u64 a.uh, .int .i64 a.sl, .int .i64 a.sh], .int .u64 v] w fun e w' => e = .returned (.bool true) ∧ Ext W w' := by
  cases hk : bnok a
  · as_aux_lemma =>
      have e : bnar a = ball := by unfold bnar; rw [hk]; simp
      have e2 : bhas a v = false := by
        cases h : bhas a v
        · rfl
        · have := bhas_nok ha v0 v1 h
          rw [hk] at this
          exact absurd this (by simp)
      have E := hide e
      have E2 := hide e2
      have HK := hide hk
      have HA := hide ha
      clear e e2 hk
      obtain ⟨W3, hW3⟩ : ∃ W3, W3 = (w.alloc (.cells #[.int .u64 a.ul, .int .u64 a.uh, .int .i64 a.sl, .int .i64 a.sh] 24)) := ⟨_, rfl⟩
      have x3 : Ext w W3 := by rw [hW3]; exact ((Ext.refl w).alloc _)
      have MK := hide (fun w' (h : Ext W3 w') => bk1 (hW3 ▸ h))
      have hx' : Ext W3 W3 := Ext.refl _
      go_enter Try.func3, Try.ntmps3
      go_wp2_with fail
      rw [← hW3]
      clear hW3
      (try clear c0_0 c0_1 c0_2 c0_3 c0_f c0_l); have mk := MK.out _ hx'; have c0_0 : _ = some _ := mk.1.cell 0; have c0_1 : _ = some _ := mk.1.cell 1; have c0_2 : _ = some _ := mk.1.cell 2; have c0_3 : _ = some _ := mk.1.cell 3; have c0_f := mk.1.free; have c0_l := mk.1.lt; clear mk
      go_wp2_with (first
        | (go_at_call 11; (with_reducible refine (b_narl a ball false HA.out E.out HK.out W3 _ (by assumption)).mono ?_); rintro e w' ⟨rfl, hx'⟩; (try clear c0_0 c0_1 c0_2 c0_3 c0_f c0_l); have mk := MK.out _ hx'; have c0_0 : _ = some _ := mk.1.cell 0; have c0_1 : _ = some _ := mk.1.cell 1; have c0_2 : _ = some _ := mk.1.cell 2; have c0_3 : _ = some _ := mk.1.cell 3; have c0_f := mk.1.free; have c0_l := mk.1.lt; clear mk)
        | fail)
      obtain ⟨V1, hV1⟩ : ∃ V1, V1 = (w'.alloc (.cells #[.int .u64 ball.ul, .int .u64 ball.uh, .int .i64 ball.sl, .int .i64 ball.sh] 24)) := ⟨_, rfl⟩
      rw [← hV1]
      obtain ⟨b1, hb1⟩ : ∃ b1, b1 = w'.heap.size := ⟨_, rfl⟩
      rw [← hb1]
      have xV1 : Ext w V1 := by rw [hV1]; exact ((x3.trans hx').alloc _)
      have xq : Ext W3 V1 := by rw [hV1]; exact (hx'.alloc _)
      have cn : ∀ w2, Ext V1 w2 → Bk w2 (b1) #[.int .u64 ball.ul, .int .u64 ball.uh, .int .i64 ball.sl, .int .i64 ball.sh] 24 := fun w2 h => by rw [hb1]; have hh := bk1 (hV1 ▸ h); exact hh.1
      have MV1 := hide (fun w2 (h : Ext V1 w2) => (⟨cn w2 h, MK.out w2 (xq.trans h)⟩ : Bk w2 (b1) #[.int .u64 ball.ul, .int .u64 ball.uh, .int .i64 ball.sl, .int .i64 ball.sh] 24 ∧ _))
      have lb1 : w.heap.size ≤ b1 := by rw [hb1]; exact (x3.trans hx').size
      have n1_0 : w.heap.size < b1 := by rw [hb1]; exact (MK.out _ hx').1.lt
      clear hV1 hb1 xq cn hx'
      (try clear c0_0 c0_1 c0_2 c0_3 c0_f c0_l)
      have hx' : Ext V1 V1 := Ext.refl _
      (try clear c0_0 c0_1 c0_2 c0_3 c1_0 c1_1 c1_2 c1_3 c0_f c1_f c0_l c1_l); have mk := MV1.out _ hx'; have c0_0 : _ = some _ := mk.1.cell 0; have c0_1 : _ = some _ := mk.1.cell 1; have c0_2 : _ = some _ := mk.1.cell 2; have c0_3 : _ = some _ := mk.1.cell 3; have c0_f := mk.1.free; have c0_l := mk.1.lt; have c1_0 : _ = some _ := mk.2.1.cell 0; have c1_1 : _ = some _ := mk.2.1.cell 1; have c1_2 : _ = some _ := mk.2.1.cell 2; have c1_3 : _ = some _ := mk.2.1.cell 3; have c1_f := mk.2.1.free; have c1_l := mk.2.1.lt; clear mk
      go_wp2_with fail
      have SK : Hid (∀ w', Ext V1 w' → Ext V1 w' ∧ w'.cell? ⟨b1, 0, none⟩ = some (.int .u64 ball.ul) ∧ w'.cell? ⟨b1, 1, none⟩ = some (.int .u64 ball.uh) ∧ w'.cell? ⟨b1, 2, none⟩ = some (.int .i64 ball.sl) ∧ w'.cell? ⟨b1, 3, none⟩ = some (.int .i64 ball.sh) ∧ w'.cell? ⟨w.heap.size, 0, none⟩ = some (.int .u64 a.ul) ∧ w'.cell? ⟨w.heap.size, 1, none⟩ = some (.int .u64 a.uh) ∧ w'.cell? ⟨w.heap.size, 2, none⟩ = some (.int .i64 a.sl) ∧ w'.cell? ⟨w.heap.size, 3, none⟩ = some (.int .i64 a.sh)) := hide (fun w' h => ⟨h, (MV1.out _ h).1.cell 0, (MV1.out _ h).1.cell 1, (MV1.out _ h).1.cell 2, (MV1.out _ h).1.cell 3, (MV1.out _ h).2.1.cell 0, (MV1.out _ h).2.1.cell 1, (MV1.out _ h).2.1.cell 2, (MV1.out _ h).2.1.cell 3⟩)
      (try clear c0_0 c0_1 c0_2 c0_3 c1_0 c1_1 c1_2 c1_3 c0_f c1_f c0_l c1_l)
      go_region_held3 (fun w' => Ext V1 w' ∧ w'.cell? ⟨b1, 0, none⟩ = some (.int .u64 ball.ul) ∧ w'.cell? ⟨b1, 1, none⟩ = some (.int .u64 ball.uh) ∧ w'.cell? ⟨b1, 2, none⟩ = some (.int .i64 ball.sl) ∧ w'.cell? ⟨b1, 3, none⟩ = some (.int .i64 ball.sh) ∧ w'.cell? ⟨w.heap.size, 0, none⟩ = some (.int .u64 a.ul) ∧ w'.cell? ⟨w.heap.size, 1, none⟩ = some (.int .u64 a.uh) ∧ w'.cell? ⟨w.heap.size, 2, none⟩ = some (.int .i64 a.sl) ∧ w'.cell? ⟨w.heap.size, 3, none⟩ = some (.int .i64 a.sh))
        (first | exact SK.out _ hx' | exact SK.out _ hx'.drew)
        (first
        | (go_at_call 12; have hq := And.left ‹Ext V1 _ ∧ _›; (with_reducible refine (b_has a v false E2.out V1 _ hq).mono ?_); rintro e w' ⟨rfl, hx'⟩)
        | (go_at_call 13; have hq := And.left ‹Ext V1 _ ∧ _›; (with_reducible refine (b_all V1 _ hq).mono ?_); rintro e w' ⟨rfl, hx'⟩)
        | (go_at_call 14; have hq := And.left ‹Ext V1 _ ∧ _›; (with_reducible refine (b_wakes V1 _ hq).mono ?_); rintro e w' ⟨rfl, hx'⟩))
      clear SK
      all_goals
        go_wp2_with fail
        go_ret
        exact ⟨rfl, hx.trans (xV1.trans (by assumption))⟩
  · obtain ⟨r, hr⟩ : ∃ r, bnar a = r := ⟨_, rfl⟩
    have hm : bmay r = true := by rw [← hr]; exact bmay_bnar hk
    have hh : bhas r v = bhas a v := by rw [← hr]; exact bhas_bnar ha v0 v1 hk
    obtain ⟨s, hs⟩ : ∃ s, bsingle r = s := ⟨_, rfl⟩
    have hc : (bones r = false ∧ bhas a v = false) ∨ (bones r = false ∧ bhas a v = true) ∨ (bones r = true ∧ bhas a v = true ∧ (v == s) = true) ∨ (bones r = true ∧ bhas a v = false ∧ (v == s) = false) := by
      cases ho : bones r
      · cases bhas a v <;> simp
      · have e := bone_only ho v0 v1
        rw [hh] at e
        have e3 : s = r.ul := by rw [← hs]; unfold bsingle; rw [ho]; simp
        rw [e, e3]
        by_cases q : v = r.ul <;> simp [q]
    have HR := hide hr
    have HM := hide hm
    have HS := hide hs
    have HH := hide hh
    have HK := hide hk
    have HA := hide ha
    clear hr hm hs hh hk
    rcases hc with ⟨q1, q2⟩ | ⟨q1, q2⟩ | ⟨q1, q2, q3⟩ | ⟨q1, q2, q3⟩
    · as_aux_lemma =>
        have Q1 := hide q1
        have Q2 := hide q2
        have Q4 := hide (HH.out.trans q2)
        clear q1 q2
        obtain ⟨W3, hW3⟩ : ∃ W3, W3 = (w.alloc (.cells #[.int .u64 a.ul, .int .u64 a.uh, .int .i64 a.sl, .int .i64 a.sh] 24)) := ⟨_, rfl⟩
        have x3 : Ext w W3 := by rw [hW3]; exact ((Ext.refl w).alloc _)
        have MK := hide (fun w' (h : Ext W3 w') => bk1 (hW3 ▸ h))
        have hx' : Ext W3 W3 := Ext.refl _
        go_enter Try.func3, Try.ntmps3
        go_wp2_with fail
        rw [← hW3]
        clear hW3
        (try clear c0_0 c0_1 c0_2 c0_3 c0_f c0_l); have mk := MK.out _ hx'; have c0_0 : _ = some _ := mk.1.cell 0; have c0_1 : _ = some _ := mk.1.cell 1; have c0_2 : _ = some _ := mk.1.cell 2; have c0_3 : _ = some _ := mk.1.cell 3; have c0_f := mk.1.free; have c0_l := mk.1.lt; clear mk
        go_wp2_with (first
          | (go_at_call 11; (with_reducible refine (b_narl a r true HA.out HR.out HK.out W3 _ (by assumption)).mono ?_); rintro e w' ⟨rfl, hx'⟩; (try clear c0_0 c0_1 c0_2 c0_3 c0_f c0_l); have mk := MK.out _ hx'; have c0_0 : _ = some _ := mk.1.cell 0; have c0_1 : _ = some _ := mk.1.cell 1; have c0_2 : _ = some _ := mk.1.cell 2; have c0_3 : _ = some _ := mk.1.cell 3; have c0_f := mk.1.free; have c0_l := mk.1.lt; clear mk)
          | fail)
        obtain ⟨V1, hV1⟩ : ∃ V1, V1 = (w'.alloc (.cells #[.int .u64 r.ul, .int .u64 r.uh, .int .i64 r.sl, .int .i64 r.sh] 24)) := ⟨_, rfl⟩
        rw [← hV1]
        obtain ⟨b1, hb1⟩ : ∃ b1, b1 = w'.heap.size := ⟨_, rfl⟩
        rw [← hb1]
        have xV1 : Ext w V1 := by rw [hV1]; exact ((x3.trans hx').alloc _)
        have xq : Ext W3 V1 := by rw [hV1]; exact (hx'.alloc _)
        have cn : ∀ w2, Ext V1 w2 → Bk w2 (b1) #[.int .u64 r.ul, .int .u64 r.uh, .int .i64 r.sl, .int .i64 r.sh] 24 := fun w2 h => by rw [hb1]; have hh := bk1 (hV1 ▸ h); exact hh.1
        have MV1 := hide (fun w2 (h : Ext V1 w2) => (⟨cn w2 h, MK.out w2 (xq.trans h)⟩ : Bk w2 (b1) #[.int .u64 r.ul, .int .u64 r.uh, .int .i64 r.sl, .int .i64 r.sh] 24 ∧ _))
        have lb1 : w.heap.size ≤ b1 := by rw [hb1]; exact (x3.trans hx').size
        have n1_0 : w.heap.size < b1 := by rw [hb1]; exact (MK.out _ hx').1.lt
        clear hV1 hb1 xq cn hx'
        (try clear c0_0 c0_1 c0_2 c0_3 c0_f c0_l)
        have hx' : Ext V1 V1 := Ext.refl _
        (try clear c0_0 c0_1 c0_2 c0_3 c1_0 c1_1 c1_2 c1_3 c0_f c1_f c0_l c1_l); have mk := MV1.out _ hx'; have c0_0 : _ = some _ := mk.1.cell 0; have c0_1 : _ = some _ := mk.1.cell 1; have c0_2 : _ = some _ := mk.1.cell 2; have c0_3 : _ = some _ := mk.1.cell 3; have c0_f := mk.1.free; have c0_l := mk.1.lt; have c1_0 : _ = some _ := mk.2.1.cell 0; have c1_1 : _ = some _ := mk.2.1.cell 1; have c1_2 : _ = some _ := mk.2.1.cell 2; have c1_3 : _ = some _ := mk.2.1.cell 3; have c1_f := mk.2.1.free; have c1_l := mk.2.1.lt; clear mk
        go_wp2_with (first
          | (go_at_call 15; (with_reducible refine (b_sngl r s false HS.out Q1.out V1 _ (by assumption)).mono ?_); rintro e w' ⟨rfl, hx'⟩; (try clear c0_0 c0_1 c0_2 c0_3 c1_0 c1_1 c1_2 c1_3 c0_f c1_f c0_l c1_l); have mk := MV1.out _ hx'; have c0_0 : _ = some _ := mk.1.cell 0; have c0_1 : _ = some _ := mk.1.cell 1; have c0_2 : _ = some _ := mk.1.cell 2; have c0_3 : _ = some _ := mk.1.cell 3; have c0_f := mk.1.free; have c0_l := mk.1.lt; have c1_0 : _ = some _ := mk.2.1.cell 0; have c1_1 : _ = some _ := mk.2.1.cell 1; have c1_2 : _ = some _ := mk.2.1.cell 2; have c1_3 : _ = some _ := mk.2.1.cell 3; have c1_f := mk.2.1.free; have c1_l := mk.2.1.lt; clear mk)
          | fail)
        have SK : Hid (∀ w', Ext V1 w' → Ext V1 w' ∧ w'.cell? ⟨b1, 0, none⟩ = some (.int .u64 r.ul) ∧ w'.cell? ⟨b1, 1, none⟩ = some (.int .u64 r.uh) ∧ w'.cell? ⟨b1, 2, none⟩ = some (.int .i64 r.sl) ∧ w'.cell? ⟨b1, 3, none⟩ = some (.int .i64 r.sh) ∧ w'.cell? ⟨w.heap.size, 0, none⟩ = some (.int .u64 a.ul) ∧ w'.cell? ⟨w.heap.size, 1, none⟩ = some (.int .u64 a.uh) ∧ w'.cell? ⟨w.heap.size, 2, none⟩ = some (.int .i64 a.sl) ∧ w'.cell? ⟨w.heap.size, 3, none⟩ = some (.int .i64 a.sh)) := hide (fun w' h => ⟨h, (MV1.out _ h).1.cell 0, (MV1.out _ h).1.cell 1, (MV1.out _ h).1.cell 2, (MV1.out _ h).1.cell 3, (MV1.out _ h).2.1.cell 0, (MV1.out _ h).2.1.cell 1, (MV1.out _ h).2.1.cell 2, (MV1.out _ h).2.1.cell 3⟩)
        (try clear c0_0 c0_1 c0_2 c0_3 c1_0 c1_1 c1_2 c1_3 c0_f c1_f c0_l c1_l)
        refine wp_region_held_drew (S := (fun w' => Ext V1 w' ∧ w'.cell? ⟨b1, 0, none⟩ = some (.int .u64 r.ul) ∧ w'.cell? ⟨b1, 1, none⟩ = some (.int .u64 r.uh) ∧ w'.cell? ⟨b1, 2, none⟩ = some (.int .i64 r.sl) ∧ w'.cell? ⟨b1, 3, none⟩ = some (.int .i64 r.sh) ∧ w'.cell? ⟨w.heap.size, 0, none⟩ = some (.int .u64 a.ul) ∧ w'.cell? ⟨w.heap.size, 1, none⟩ = some (.int .u64 a.uh) ∧ w'.cell? ⟨w.heap.size, 2, none⟩ = some (.int .i64 a.sl) ∧ w'.cell? ⟨w.heap.size, 3, none⟩ = some (.int .i64 a.sh))) (by kernel_rfl) ?_ (fun hHeld => ?_)
        · (try dsimp only); (first | exact SK.out _ hx' | exact SK.out _ hx'.drew)
        refine take_run (i := 0) (d := (some 33)) (oi := _) (v := ?_) rfl rfl (by kernel_rfl) (by kernel_rfl) (by kernel_rfl) (fun _ _ _ h => h) (by kernel_rfl) ?_ (by assumption) ?_
        rotate_left 1
        · intro w hSw; (try dsimp only at hSw); go_simp; (try with_reducible rfl)
        try simp only [Act.put, List.setIfInBounds_toArray, List.set_cons_zero, List.set_cons_succ]
        refine wpAnyH_ready (rs := [1]) (by kernel_rfl) (by simp) ?_
        refine AllReadyH.cons (o := _) rfl (fun K hK => ?_) AllReadyH.nil
        go_simp
        (first | (go_at_call 16; have hq := And.left ‹Ext V1 _ ∧ _›; (with_reducible refine (b_may r true HM.out V1 _ hq).mono ?_); rintro e w' ⟨rfl, hx'⟩) | (go_at_call 12; have hq := And.left ‹Ext V1 _ ∧ _›; (with_reducible refine (b_has r v false Q4.out V1 _ hq).mono ?_); rintro e w' ⟨rfl, hx'⟩) | (go_at_call 12; have hq := And.left ‹Ext V1 _ ∧ _›; (with_reducible refine (b_has a v false Q2.out V1 _ hq).mono ?_); rintro e w' ⟨rfl, hx'⟩) | (go_at_call 14; have hq := And.left ‹Ext V1 _ ∧ _›; (with_reducible refine (b_wakes V1 _ hq).mono ?_); rintro e w' ⟨rfl, hx'⟩))
        go_wp2_with fail
        refine hK.out _ _ ?_ (fun hHeld2 => ?_)
        · (try dsimp only); (first | exact SK.out _ hx' | exact SK.out _ hx'.drew)
        clear hK K hHeld
        have hHeld := hHeld2
        clear hHeld2
        try simp only [Act.put, List.setIfInBounds_toArray, List.set_cons_zero, List.set_cons_succ]
        refine take_run (i := 2) (d := (some 35)) (oi := _) (v := ?_) rfl rfl (by kernel_rfl) (by kernel_rfl) (by kernel_rfl) (fun _ _ _ h => h) (by kernel_rfl) ?_ (by assumption) ?_
        rotate_left 1
        · intro w hSw; (try dsimp only at hSw); go_simp; (try with_reducible rfl)
        try simp only [Act.put, List.setIfInBounds_toArray, List.set_cons_zero, List.set_cons_succ]
        refine take_run (i := 3) (d := (some 36)) (oi := _) (v := ?_) rfl rfl (by kernel_rfl) (by kernel_rfl) (by kernel_rfl) (fun _ _ _ h => h) (by kernel_rfl) ?_ (by assumption) ?_
        rotate_left 1
        · intro w hSw; (try dsimp only at hSw); go_simp; (try with_reducible rfl)
        try simp only [Act.put, List.setIfInBounds_toArray, List.set_cons_zero, List.set_cons_succ]
        refine take_run (i := 4) (d := (some 37)) (oi := _) (v := ?_) rfl rfl (by kernel_rfl) (by kernel_rfl) (by kernel_rfl) (fun _ _ _ h => h) (by kernel_rfl) ?_ (by assumption) ?_
        rotate_left 1
        · intro w hSw; (try dsimp only at hSw); go_simp; (try with_reducible rfl)
        try simp only [Act.put, List.setIfInBounds_toArray, List.set_cons_zero, List.set_cons_succ]
        refine take_run (i := 6) (d := (some 39)) (oi := _) (v := ?_) rfl rfl (by kernel_rfl) (by kernel_rfl) (by kernel_rfl) (fun _ _ _ h => h) (by kernel_rfl) ?_ (by assumption) ?_
        rotate_left 1
        · intro w hSw; (try dsimp only at hSw); go_simp; (try with_reducible rfl)
        try simp only [Act.put, List.setIfInBounds_toArray, List.set_cons_zero, List.set_cons_succ]
        refine take_run (i := 7) (d := (some 40)) (oi := _) (v := ?_) rfl rfl (by kernel_rfl) (by kernel_rfl) (by kernel_rfl) (fun _ _ _ h => h) (by kernel_rfl) ?_ (by assumption) ?_
        rotate_left 1
        · intro w hSw; (try dsimp only at hSw); go_simp; (try with_reducible rfl)
        try simp only [Act.put, List.setIfInBounds_toArray, List.set_cons_zero, List.set_cons_succ]
        refine wpAnyH_ready (rs := [5]) (by kernel_rfl) (by simp) ?_
        refine AllReadyH.cons (o := _) rfl (fun K hK => ?_) AllReadyH.nil
        go_simp
        (first | (go_at_call 16; have hq := And.left ‹Ext V1 _ ∧ _›; (with_reducible refine (b_may r true HM.out V1 _ hq).mono ?_); rintro e w' ⟨rfl, hx'⟩) | (go_at_call 12; have hq := And.left ‹Ext V1 _ ∧ _›; (with_reducible refine (b_has r v false Q4.out V1 _ hq).mono ?_); rintro e w' ⟨rfl, hx'⟩) | (go_at_call 12; have hq := And.left ‹Ext V1 _ ∧ _›; (with_reducible refine (b_has a v false Q2.out V1 _ hq).mono ?_); rintro e w' ⟨rfl, hx'⟩) | (go_at_call 14; have hq := And.left ‹Ext V1 _ ∧ _›; (with_reducible refine (b_wakes V1 _ hq).mono ?_); rintro e w' ⟨rfl, hx'⟩))
        go_wp2_with fail
        refine hK.out _ _ ?_ (fun hHeld2 => ?_)
        · (try dsimp only); (first | exact SK.out _ hx' | exact SK.out _ hx'.drew)
        clear hK K hHeld
        have hHeld := hHeld2
        clear hHeld2
        try simp only [Act.put, List.setIfInBounds_toArray, List.set_cons_zero, List.set_cons_succ]
        refine wpAnyH_ready (rs := [8]) (by kernel_rfl) (by simp) ?_
        refine AllReadyH.cons (o := _) rfl (fun K hK => ?_) AllReadyH.nil
        go_simp
        (first | (go_at_call 16; have hq := And.left ‹Ext V1 _ ∧ _›; (with_reducible refine (b_may r true HM.out V1 _ hq).mono ?_); rintro e w' ⟨rfl, hx'⟩) | (go_at_call 12; have hq := And.left ‹Ext V1 _ ∧ _›; (with_reducible refine (b_has r v false Q4.out V1 _ hq).mono ?_); rintro e w' ⟨rfl, hx'⟩) | (go_at_call 12; have hq := And.left ‹Ext V1 _ ∧ _›; (with_reducible refine (b_has a v false Q2.out V1 _ hq).mono ?_); rintro e w' ⟨rfl, hx'⟩) | (go_at_call 14; have hq := And.left ‹Ext V1 _ ∧ _›; (with_reducible refine (b_wakes V1 _ hq).mono ?_); rintro e w' ⟨rfl, hx'⟩))
        go_wp2_with fail
        refine hK.out _ _ ?_ (fun hHeld2 => ?_)
        · (try dsimp only); (first | exact SK.out _ hx' | exact SK.out _ hx'.drew)
        clear hK K hHeld
        have hHeld := hHeld2
        clear hHeld2
        try simp only [Act.put, List.setIfInBounds_toArray, List.set_cons_zero, List.set_cons_succ]
        refine take_run (i := 9) (d := (some 42)) (oi := _) (v := ?_) rfl rfl (by kernel_rfl) (by kernel_rfl) (by kernel_rfl) (fun _ _ _ h => h) (by kernel_rfl) ?_ (by assumption) ?_
        rotate_left 1
        · intro w hSw; (try dsimp only at hSw); go_simp; (try with_reducible rfl)
        try simp only [Act.put, List.setIfInBounds_toArray, List.set_cons_zero, List.set_cons_succ]
        refine take_run (i := 10) (d := (some 43)) (oi := _) (v := ?_) rfl rfl (by kernel_rfl) (by kernel_rfl) (by kernel_rfl) (fun _ _ _ h => h) (by kernel_rfl) ?_ (by assumption) ?_
        rotate_left 1
        · intro w hSw; (try dsimp only at hSw); go_simp; (try with_reducible rfl)
        try simp only [Act.put, List.setIfInBounds_toArray, List.set_cons_zero, List.set_cons_succ]
        refine take_run (i := 11) (d := (some 44)) (oi := _) (v := ?_) rfl rfl (by kernel_rfl) (by kernel_rfl) (by kernel_rfl) (fun _ _ _ h => h) (by kernel_rfl) ?_ (by assumption) ?_
        rotate_left 1
        · intro w hSw; (try dsimp only at hSw); go_simp; (try with_reducible rfl)
        try simp only [Act.put, List.setIfInBounds_toArray, List.set_cons_zero, List.set_cons_succ]
        refine take_run (i := 12) (d := (some 45)) (oi := _) (v := ?_) rfl rfl (by kernel_rfl) (by kernel_rfl) (by kernel_rfl) (fun _ _ _ h => h) (by kernel_rfl) ?_ (by assumption) ?_
        rotate_left 1
        · intro w hSw; (try dsimp only at hSw); go_simp; (try with_reducible rfl)
        try simp only [Act.put, List.setIfInBounds_toArray, List.set_cons_zero, List.set_cons_succ]
        refine take_run (i := 13) (d := (some 46)) (oi := _) (v := ?_) rfl rfl (by kernel_rfl) (by kernel_rfl) (by kernel_rfl) (fun _ _ _ h => h) (by kernel_rfl) ?_ (by assumption) ?_
        rotate_left 1
        · intro w hSw; (try dsimp only at hSw); go_simp; (try with_reducible rfl)
        try simp only [Act.put, List.setIfInBounds_toArray, List.set_cons_zero, List.set_cons_succ]
        refine take_run (i := 14) (d := (some 47)) (oi := _) (v := ?_) rfl rfl (by kernel_rfl) (by kernel_rfl) (by kernel_rfl) (fun _ _ _ h => h) (by kernel_rfl) ?_ (by assumption) ?_
        rotate_left 1
        · intro w hSw; (try dsimp only at hSw); go_simp; (try with_reducible rfl)
        try simp only [Act.put, List.setIfInBounds_toArray, List.set_cons_zero, List.set_cons_succ]
        refine take_skip (i := 15) (d := (some 48)) (oi := _) rfl rfl (by kernel_rfl) (by kernel_rfl) (by kernel_rfl) (fun _ _ _ h => h) (by kernel_rfl) (by assumption) ?_
        try simp only [Act.put, List.setIfInBounds_toArray, List.set_cons_zero, List.set_cons_succ]
        refine take_skip (i := 16) (d := (some 49)) (oi := _) rfl rfl (by kernel_rfl) (by kernel_rfl) (by kernel_rfl) (fun _ _ _ h => h) (by kernel_rfl) (by assumption) ?_
        try simp only [Act.put, List.setIfInBounds_toArray, List.set_cons_zero, List.set_cons_succ]
        refine take_skip (i := 17) (d := (some 50)) (oi := _) rfl rfl (by kernel_rfl) (by kernel_rfl) (by kernel_rfl) (fun _ _ _ h => h) (by kernel_rfl) (by assumption) ?_
        try simp only [Act.put, List.setIfInBounds_toArray, List.set_cons_zero, List.set_cons_succ]
        refine take_skip (i := 18) (d := (some 51)) (oi := _) rfl rfl (by kernel_rfl) (by kernel_rfl) (by kernel_rfl) (fun _ _ _ h => h) (by kernel_rfl) (by assumption) ?_
        try simp only [Act.put, List.setIfInBounds_toArray, List.set_cons_zero, List.set_cons_succ]
        refine take_skip (i := 19) (d := (some 52)) (oi := _) rfl rfl (by kernel_rfl) (by kernel_rfl) (by kernel_rfl) (fun _ _ _ h => h) (by kernel_rfl) (by assumption) ?_
        try simp only [Act.put, List.setIfInBounds_toArray, List.set_cons_zero, List.set_cons_succ]
        refine take_skip (i := 20) (d := (some 53)) (oi := _) rfl rfl (by kernel_rfl) (by kernel_rfl) (by kernel_rfl) (fun _ _ _ h => h) (by kernel_rfl) (by assumption) ?_
        try simp only [Act.put, List.setIfInBounds_toArray, List.set_cons_zero, List.set_cons_succ]
        refine take_skip (i := 21) (d := (some 54)) (oi := _) rfl rfl (by kernel_rfl) (by kernel_rfl) (by kernel_rfl) (fun _ _ _ h => h) (by kernel_rfl) (by assumption) ?_
        try simp only [Act.put, List.setIfInBounds_toArray, List.set_cons_zero, List.set_cons_succ]
        refine take_run (i := 22) (d := (some 55)) (oi := _) (v := ?_) rfl rfl (by kernel_rfl) (by kernel_rfl) (by kernel_rfl) (fun _ _ _ h => h) (by kernel_rfl) ?_ (by assumption) ?_
        rotate_left 1
        · intro w hSw; (try dsimp only at hSw); go_simp; (try with_reducible rfl)
        try simp only [Act.put, List.setIfInBounds_toArray, List.set_cons_zero, List.set_cons_succ]
        refine take_run (i := 23) (d := (some 56)) (oi := _) (v := ?_) rfl rfl (by kernel_rfl) (by kernel_rfl) (by kernel_rfl) (fun _ _ _ h => h) (by kernel_rfl) ?_ (by assumption) ?_
        rotate_left 1
        · intro w hSw; (try dsimp only at hSw); go_simp; (try with_reducible rfl)
        try simp only [Act.put, List.setIfInBounds_toArray, List.set_cons_zero, List.set_cons_succ]
        refine take_run (i := 24) (d := (some 57)) (oi := _) (v := ?_) rfl rfl (by kernel_rfl) (by kernel_rfl) (by kernel_rfl) (fun _ _ _ h => h) (by kernel_rfl) ?_ (by assumption) ?_
        rotate_left 1
        · intro w hSw; (try dsimp only at hSw); go_simp; (try with_reducible rfl)
        try simp only [Act.put, List.setIfInBounds_toArray, List.set_cons_zero, List.set_cons_succ]
        refine wpAnyH_ready (rs := [25]) (by kernel_rfl) (by simp) ?_
        refine AllReadyH.cons (o := _) rfl (fun K hK => ?_) AllReadyH.nil
        go_simp
        (first | (go_at_call 16; have hq := And.left ‹Ext V1 _ ∧ _›; (with_reducible refine (b_may r true HM.out V1 _ hq).mono ?_); rintro e w' ⟨rfl, hx'⟩) | (go_at_call 12; have hq := And.left ‹Ext V1 _ ∧ _›; (with_reducible refine (b_has r v false Q4.out V1 _ hq).mono ?_); rintro e w' ⟨rfl, hx'⟩) | (go_at_call 12; have hq := And.left ‹Ext V1 _ ∧ _›; (with_reducible refine (b_has a v false Q2.out V1 _ hq).mono ?_); rintro e w' ⟨rfl, hx'⟩) | (go_at_call 14; have hq := And.left ‹Ext V1 _ ∧ _›; (with_reducible refine (b_wakes V1 _ hq).mono ?_); rintro e w' ⟨rfl, hx'⟩))
        go_wp2_with fail
        refine hK.out _ _ ?_ (fun hHeld2 => ?_)
        · (try dsimp only); (first | exact SK.out _ hx' | exact SK.out _ hx'.drew)
        clear hK K hHeld
        have hHeld := hHeld2
        clear hHeld2
        try simp only [Act.put, List.setIfInBounds_toArray, List.set_cons_zero, List.set_cons_succ]
        refine take_run (i := 26) (d := (some 59)) (oi := _) (v := ?_) rfl rfl (by kernel_rfl) (by kernel_rfl) (by kernel_rfl) (fun _ _ _ h => h) (by kernel_rfl) ?_ (by assumption) ?_
        rotate_left 1
        · intro w hSw; (try dsimp only at hSw); go_simp; (try with_reducible rfl)
        try simp only [Act.put, List.setIfInBounds_toArray, List.set_cons_zero, List.set_cons_succ]
        refine take_run (i := 27) (d := (some 4)) (oi := _) (v := ?_) rfl rfl (by kernel_rfl) (by kernel_rfl) (by kernel_rfl) (fun _ _ _ h => h) (by kernel_rfl) ?_ (by assumption) ?_
        rotate_left 1
        · intro w hSw; (try dsimp only at hSw); go_simp; (try with_reducible rfl)
        try simp only [Act.put, List.setIfInBounds_toArray, List.set_cons_zero, List.set_cons_succ]
        refine wpAnyH_done (by kernel_rfl) ?_ _
        clear SK
        all_goals
          go_wp2_with fail
          go_ret
          exact ⟨rfl, hx.trans (xV1.trans (by assumption))⟩
    · as_aux_lemma =>
        have Q1 := hide q1
        have Q2 := hide q2
        have Q4 := hide (HH.out.trans q2)
        clear q1 q2
        obtain ⟨W3, hW3⟩ : ∃ W3, W3 = (w.alloc (.cells #[.int .u64 a.ul, .int .u64 a.uh, .int .i64 a.sl, .int .i64 a.sh] 24)) := ⟨_, rfl⟩
        have x3 : Ext w W3 := by rw [hW3]; exact ((Ext.refl w).alloc _)
        have MK := hide (fun w' (h : Ext W3 w') => bk1 (hW3 ▸ h))
        have hx' : Ext W3 W3 := Ext.refl _
        go_enter Try.func3, Try.ntmps3
        go_wp2_with fail
        rw [← hW3]
        clear hW3
        (try clear c0_0 c0_1 c0_2 c0_3 c0_f c0_l); have mk := MK.out _ hx'; have c0_0 : _ = some _ := mk.1.cell 0; have c0_1 : _ = some _ := mk.1.cell 1; have c0_2 : _ = some _ := mk.1.cell 2; have c0_3 : _ = some _ := mk.1.cell 3; have c0_f := mk.1.free; have c0_l := mk.1.lt; clear mk
        go_wp2_with (first
          | (go_at_call 11; (with_reducible refine (b_narl a r true HA.out HR.out HK.out W3 _ (by assumption)).mono ?_); rintro e w' ⟨rfl, hx'⟩; (try clear c0_0 c0_1 c0_2 c0_3 c0_f c0_l); have mk := MK.out _ hx'; have c0_0 : _ = some _ := mk.1.cell 0; have c0_1 : _ = some _ := mk.1.cell 1; have c0_2 : _ = some _ := mk.1.cell 2; have c0_3 : _ = some _ := mk.1.cell 3; have c0_f := mk.1.free; have c0_l := mk.1.lt; clear mk)
          | fail)
        obtain ⟨V1, hV1⟩ : ∃ V1, V1 = (w'.alloc (.cells #[.int .u64 r.ul, .int .u64 r.uh, .int .i64 r.sl, .int .i64 r.sh] 24)) := ⟨_, rfl⟩
        rw [← hV1]
        obtain ⟨b1, hb1⟩ : ∃ b1, b1 = w'.heap.size := ⟨_, rfl⟩
        rw [← hb1]
        have xV1 : Ext w V1 := by rw [hV1]; exact ((x3.trans hx').alloc _)
        have xq : Ext W3 V1 := by rw [hV1]; exact (hx'.alloc _)
        have cn : ∀ w2, Ext V1 w2 → Bk w2 (b1) #[.int .u64 r.ul, .int .u64 r.uh, .int .i64 r.sl, .int .i64 r.sh] 24 := fun w2 h => by rw [hb1]; have hh := bk1 (hV1 ▸ h); exact hh.1
        have MV1 := hide (fun w2 (h : Ext V1 w2) => (⟨cn w2 h, MK.out w2 (xq.trans h)⟩ : Bk w2 (b1) #[.int .u64 r.ul, .int .u64 r.uh, .int .i64 r.sl, .int .i64 r.sh] 24 ∧ _))
        have lb1 : w.heap.size ≤ b1 := by rw [hb1]; exact (x3.trans hx').size
        have n1_0 : w.heap.size < b1 := by rw [hb1]; exact (MK.out _ hx').1.lt
        clear hV1 hb1 xq cn hx'
        (try clear c0_0 c0_1 c0_2 c0_3 c0_f c0_l)
        have hx' : Ext V1 V1 := Ext.refl _
        (try clear c0_0 c0_1 c0_2 c0_3 c1_0 c1_1 c1_2 c1_3 c0_f c1_f c0_l c1_l); have mk := MV1.out _ hx'; have c0_0 : _ = some _ := mk.1.cell 0; have c0_1 : _ = some _ := mk.1.cell 1; have c0_2 : _ = some _ := mk.1.cell 2; have c0_3 : _ = some _ := mk.1.cell 3; have c0_f := mk.1.free; have c0_l := mk.1.lt; have c1_0 : _ = some _ := mk.2.1.cell 0; have c1_1 : _ = some _ := mk.2.1.cell 1; have c1_2 : _ = some _ := mk.2.1.cell 2; have c1_3 : _ = some _ := mk.2.1.cell 3; have c1_f := mk.2.1.free; have c1_l := mk.2.1.lt; clear mk
        go_wp2_with (first
          | (go_at_call 15; (with_reducible refine (b_sngl r s false HS.out Q1.out V1 _ (by assumption)).mono ?_); rintro e w' ⟨rfl, hx'⟩; (try clear c0_0 c0_1 c0_2 c0_3 c1_0 c1_1 c1_2 c1_3 c0_f c1_f c0_l c1_l); have mk := MV1.out _ hx'; have c0_0 : _ = some _ := mk.1.cell 0; have c0_1 : _ = some _ := mk.1.cell 1; have c0_2 : _ = some _ := mk.1.cell 2; have c0_3 : _ = some _ := mk.1.cell 3; have c0_f := mk.1.free; have c0_l := mk.1.lt; have c1_0 : _ = some _ := mk.2.1.cell 0; have c1_1 : _ = some _ := mk.2.1.cell 1; have c1_2 : _ = some _ := mk.2.1.cell 2; have c1_3 : _ = some _ := mk.2.1.cell 3; have c1_f := mk.2.1.free; have c1_l := mk.2.1.lt; clear mk)
          | fail)
        have SK : Hid (∀ w', Ext V1 w' → Ext V1 w' ∧ w'.cell? ⟨b1, 0, none⟩ = some (.int .u64 r.ul) ∧ w'.cell? ⟨b1, 1, none⟩ = some (.int .u64 r.uh) ∧ w'.cell? ⟨b1, 2, none⟩ = some (.int .i64 r.sl) ∧ w'.cell? ⟨b1, 3, none⟩ = some (.int .i64 r.sh) ∧ w'.cell? ⟨w.heap.size, 0, none⟩ = some (.int .u64 a.ul) ∧ w'.cell? ⟨w.heap.size, 1, none⟩ = some (.int .u64 a.uh) ∧ w'.cell? ⟨w.heap.size, 2, none⟩ = some (.int .i64 a.sl) ∧ w'.cell? ⟨w.heap.size, 3, none⟩ = some (.int .i64 a.sh)) := hide (fun w' h => ⟨h, (MV1.out _ h).1.cell 0, (MV1.out _ h).1.cell 1, (MV1.out _ h).1.cell 2, (MV1.out _ h).1.cell 3, (MV1.out _ h).2.1.cell 0, (MV1.out _ h).2.1.cell 1, (MV1.out _ h).2.1.cell 2, (MV1.out _ h).2.1.cell 3⟩)
        (try clear c0_0 c0_1 c0_2 c0_3 c1_0 c1_1 c1_2 c1_3 c0_f c1_f c0_l c1_l)
        refine wp_region_held_drew (S := (fun w' => Ext V1 w' ∧ w'.cell? ⟨b1, 0, none⟩ = some (.int .u64 r.ul) ∧ w'.cell? ⟨b1, 1, none⟩ = some (.int .u64 r.uh) ∧ w'.cell? ⟨b1, 2, none⟩ = some (.int .i64 r.sl) ∧ w'.cell? ⟨b1, 3, none⟩ = some (.int .i64 r.sh) ∧ w'.cell? ⟨w.heap.size, 0, none⟩ = some (.int .u64 a.ul) ∧ w'.cell? ⟨w.heap.size, 1, none⟩ = some (.int .u64 a.uh) ∧ w'.cell? ⟨w.heap.size, 2, none⟩ = some (.int .i64 a.sl) ∧ w'.cell? ⟨w.heap.size, 3, none⟩ = some (.int .i64 a.sh))) (by kernel_rfl) ?_ (fun hHeld => ?_)
        · (try dsimp only); (first | exact SK.out _ hx' | exact SK.out _ hx'.drew)
        refine take_run (i := 0) (d := (some 33)) (oi := _) (v := ?_) rfl rfl (by kernel_rfl) (by kernel_rfl) (by kernel_rfl) (fun _ _ _ h => h) (by kernel_rfl) ?_ (by assumption) ?_
        rotate_left 1
        · intro w hSw; (try dsimp only at hSw); go_simp; (try with_reducible rfl)
        try simp only [Act.put, List.setIfInBounds_toArray, List.set_cons_zero, List.set_cons_succ]
        refine wpAnyH_ready (rs := [1]) (by kernel_rfl) (by simp) ?_
        refine AllReadyH.cons (o := _) rfl (fun K hK => ?_) AllReadyH.nil
        go_simp
        (first | (go_at_call 16; have hq := And.left ‹Ext V1 _ ∧ _›; (with_reducible refine (b_may r true HM.out V1 _ hq).mono ?_); rintro e w' ⟨rfl, hx'⟩) | (go_at_call 12; have hq := And.left ‹Ext V1 _ ∧ _›; (with_reducible refine (b_has r v true Q4.out V1 _ hq).mono ?_); rintro e w' ⟨rfl, hx'⟩) | (go_at_call 12; have hq := And.left ‹Ext V1 _ ∧ _›; (with_reducible refine (b_has a v true Q2.out V1 _ hq).mono ?_); rintro e w' ⟨rfl, hx'⟩) | (go_at_call 14; have hq := And.left ‹Ext V1 _ ∧ _›; (with_reducible refine (b_wakes V1 _ hq).mono ?_); rintro e w' ⟨rfl, hx'⟩))
        go_wp2_with fail
        refine hK.out _ _ ?_ (fun hHeld2 => ?_)
        · (try dsimp only); (first | exact SK.out _ hx' | exact SK.out _ hx'.drew)
        clear hK K hHeld
        have hHeld := hHeld2
        clear hHeld2
        try simp only [Act.put, List.setIfInBounds_toArray, List.set_cons_zero, List.set_cons_succ]
        refine take_run (i := 2) (d := (some 35)) (oi := _) (v := ?_) rfl rfl (by kernel_rfl) (by kernel_rfl) (by kernel_rfl) (fun _ _ _ h => h) (by kernel_rfl) ?_ (by assumption) ?_
        rotate_left 1
        · intro w hSw; (try dsimp only at hSw); go_simp; (try with_reducible rfl)
        try simp only [Act.put, List.setIfInBounds_toArray, List.set_cons_zero, List.set_cons_succ]
        refine take_run (i := 3) (d := (some 36)) (oi := _) (v := ?_) rfl rfl (by kernel_rfl) (by kernel_rfl) (by kernel_rfl) (fun _ _ _ h => h) (by kernel_rfl) ?_ (by assumption) ?_
        rotate_left 1
        · intro w hSw; (try dsimp only at hSw); go_simp; (try with_reducible rfl)
        try simp only [Act.put, List.setIfInBounds_toArray, List.set_cons_zero, List.set_cons_succ]
        refine take_run (i := 4) (d := (some 37)) (oi := _) (v := ?_) rfl rfl (by kernel_rfl) (by kernel_rfl) (by kernel_rfl) (fun _ _ _ h => h) (by kernel_rfl) ?_ (by assumption) ?_
        rotate_left 1
        · intro w hSw; (try dsimp only at hSw); go_simp; (try with_reducible rfl)
        try simp only [Act.put, List.setIfInBounds_toArray, List.set_cons_zero, List.set_cons_succ]
        refine take_run (i := 6) (d := (some 39)) (oi := _) (v := ?_) rfl rfl (by kernel_rfl) (by kernel_rfl) (by kernel_rfl) (fun _ _ _ h => h) (by kernel_rfl) ?_ (by assumption) ?_
        rotate_left 1
        · intro w hSw; (try dsimp only at hSw); go_simp; (try with_reducible rfl)
        try simp only [Act.put, List.setIfInBounds_toArray, List.set_cons_zero, List.set_cons_succ]
        refine take_run (i := 7) (d := (some 40)) (oi := _) (v := ?_) rfl rfl (by kernel_rfl) (by kernel_rfl) (by kernel_rfl) (fun _ _ _ h => h) (by kernel_rfl) ?_ (by assumption) ?_
        rotate_left 1
        · intro w hSw; (try dsimp only at hSw); go_simp; (try with_reducible rfl)
        try simp only [Act.put, List.setIfInBounds_toArray, List.set_cons_zero, List.set_cons_succ]
        refine wpAnyH_ready (rs := [5]) (by kernel_rfl) (by simp) ?_
        refine AllReadyH.cons (o := _) rfl (fun K hK => ?_) AllReadyH.nil
        go_simp
        (first | (go_at_call 16; have hq := And.left ‹Ext V1 _ ∧ _›; (with_reducible refine (b_may r true HM.out V1 _ hq).mono ?_); rintro e w' ⟨rfl, hx'⟩) | (go_at_call 12; have hq := And.left ‹Ext V1 _ ∧ _›; (with_reducible refine (b_has r v true Q4.out V1 _ hq).mono ?_); rintro e w' ⟨rfl, hx'⟩) | (go_at_call 12; have hq := And.left ‹Ext V1 _ ∧ _›; (with_reducible refine (b_has a v true Q2.out V1 _ hq).mono ?_); rintro e w' ⟨rfl, hx'⟩) | (go_at_call 14; have hq := And.left ‹Ext V1 _ ∧ _›; (with_reducible refine (b_wakes V1 _ hq).mono ?_); rintro e w' ⟨rfl, hx'⟩))
        go_wp2_with fail
        refine hK.out _ _ ?_ (fun hHeld2 => ?_)
        · (try dsimp only); (first | exact SK.out _ hx' | exact SK.out _ hx'.drew)
        clear hK K hHeld
        have hHeld := hHeld2
        clear hHeld2
        try simp only [Act.put, List.setIfInBounds_toArray, List.set_cons_zero, List.set_cons_succ]
        refine wpAnyH_ready (rs := [8]) (by kernel_rfl) (by simp) ?_
        refine AllReadyH.cons (o := _) rfl (fun K hK => ?_) AllReadyH.nil
        go_simp
        (first | (go_at_call 16; have hq := And.left ‹Ext V1 _ ∧ _›; (with_reducible refine (b_may r true HM.out V1 _ hq).mono ?_); rintro e w' ⟨rfl, hx'⟩) | (go_at_call 12; have hq := And.left ‹Ext V1 _ ∧ _›; (with_reducible refine (b_has r v true Q4.out V1 _ hq).mono ?_); rintro e w' ⟨rfl, hx'⟩) | (go_at_call 12; have hq := And.left ‹Ext V1 _ ∧ _›; (with_reducible refine (b_has a v true Q2.out V1 _ hq).mono ?_); rintro e w' ⟨rfl, hx'⟩) | (go_at_call 14; have hq := And.left ‹Ext V1 _ ∧ _›; (with_reducible refine (b_wakes V1 _ hq).mono ?_); rintro e w' ⟨rfl, hx'⟩))
        go_wp2_with fail
        refine hK.out _ _ ?_ (fun hHeld2 => ?_)
        · (try dsimp only); (first | exact SK.out _ hx' | exact SK.out _ hx'.drew)
        clear hK K hHeld
        have hHeld := hHeld2
        clear hHeld2
        try simp only [Act.put, List.setIfInBounds_toArray, List.set_cons_zero, List.set_cons_succ]
        refine take_run (i := 9) (d := (some 42)) (oi := _) (v := ?_) rfl rfl (by kernel_rfl) (by kernel_rfl) (by kernel_rfl) (fun _ _ _ h => h) (by kernel_rfl) ?_ (by assumption) ?_
        rotate_left 1
        · intro w hSw; (try dsimp only at hSw); go_simp; (try with_reducible rfl)
        try simp only [Act.put, List.setIfInBounds_toArray, List.set_cons_zero, List.set_cons_succ]
        refine take_run (i := 10) (d := (some 43)) (oi := _) (v := ?_) rfl rfl (by kernel_rfl) (by kernel_rfl) (by kernel_rfl) (fun _ _ _ h => h) (by kernel_rfl) ?_ (by assumption) ?_
        rotate_left 1
        · intro w hSw; (try dsimp only at hSw); go_simp; (try with_reducible rfl)
        try simp only [Act.put, List.setIfInBounds_toArray, List.set_cons_zero, List.set_cons_succ]
        refine take_run (i := 11) (d := (some 44)) (oi := _) (v := ?_) rfl rfl (by kernel_rfl) (by kernel_rfl) (by kernel_rfl) (fun _ _ _ h => h) (by kernel_rfl) ?_ (by assumption) ?_
        rotate_left 1
        · intro w hSw; (try dsimp only at hSw); go_simp; (try with_reducible rfl)
        try simp only [Act.put, List.setIfInBounds_toArray, List.set_cons_zero, List.set_cons_succ]
        refine take_run (i := 12) (d := (some 45)) (oi := _) (v := ?_) rfl rfl (by kernel_rfl) (by kernel_rfl) (by kernel_rfl) (fun _ _ _ h => h) (by kernel_rfl) ?_ (by assumption) ?_
        rotate_left 1
        · intro w hSw; (try dsimp only at hSw); go_simp; (try with_reducible rfl)
        try simp only [Act.put, List.setIfInBounds_toArray, List.set_cons_zero, List.set_cons_succ]
        refine take_run (i := 13) (d := (some 46)) (oi := _) (v := ?_) rfl rfl (by kernel_rfl) (by kernel_rfl) (by kernel_rfl) (fun _ _ _ h => h) (by kernel_rfl) ?_ (by assumption) ?_
        rotate_left 1
        · intro w hSw; (try dsimp only at hSw); go_simp; (try with_reducible rfl)
        try simp only [Act.put, List.setIfInBounds_toArray, List.set_cons_zero, List.set_cons_succ]
        refine take_run (i := 14) (d := (some 47)) (oi := _) (v := ?_) rfl rfl (by kernel_rfl) (by kernel_rfl) (by kernel_rfl) (fun _ _ _ h => h) (by kernel_rfl) ?_ (by assumption) ?_
        rotate_left 1
        · intro w hSw; (try dsimp only at hSw); go_simp; (try with_reducible rfl)
        try simp only [Act.put, List.setIfInBounds_toArray, List.set_cons_zero, List.set_cons_succ]
        refine take_skip (i := 15) (d := (some 48)) (oi := _) rfl rfl (by kernel_rfl) (by kernel_rfl) (by kernel_rfl) (fun _ _ _ h => h) (by kernel_rfl) (by assumption) ?_
        try simp only [Act.put, List.setIfInBounds_toArray, List.set_cons_zero, List.set_cons_succ]
        refine take_skip (i := 16) (d := (some 49)) (oi := _) rfl rfl (by kernel_rfl) (by kernel_rfl) (by kernel_rfl) (fun _ _ _ h => h) (by kernel_rfl) (by assumption) ?_
        try simp only [Act.put, List.setIfInBounds_toArray, List.set_cons_zero, List.set_cons_succ]
        refine take_skip (i := 17) (d := (some 50)) (oi := _) rfl rfl (by kernel_rfl) (by kernel_rfl) (by kernel_rfl) (fun _ _ _ h => h) (by kernel_rfl) (by assumption) ?_
        try simp only [Act.put, List.setIfInBounds_toArray, List.set_cons_zero, List.set_cons_succ]
        refine take_skip (i := 18) (d := (some 51)) (oi := _) rfl rfl (by kernel_rfl) (by kernel_rfl) (by kernel_rfl) (fun _ _ _ h => h) (by kernel_rfl) (by assumption) ?_
        try simp only [Act.put, List.setIfInBounds_toArray, List.set_cons_zero, List.set_cons_succ]
        refine take_skip (i := 19) (d := (some 52)) (oi := _) rfl rfl (by kernel_rfl) (by kernel_rfl) (by kernel_rfl) (fun _ _ _ h => h) (by kernel_rfl) (by assumption) ?_
        try simp only [Act.put, List.setIfInBounds_toArray, List.set_cons_zero, List.set_cons_succ]
        refine take_skip (i := 20) (d := (some 53)) (oi := _) rfl rfl (by kernel_rfl) (by kernel_rfl) (by kernel_rfl) (fun _ _ _ h => h) (by kernel_rfl) (by assumption) ?_
        try simp only [Act.put, List.setIfInBounds_toArray, List.set_cons_zero, List.set_cons_succ]
        refine take_skip (i := 21) (d := (some 54)) (oi := _) rfl rfl (by kernel_rfl) (by kernel_rfl) (by kernel_rfl) (fun _ _ _ h => h) (by kernel_rfl) (by assumption) ?_
        try simp only [Act.put, List.setIfInBounds_toArray, List.set_cons_zero, List.set_cons_succ]
        refine take_run (i := 22) (d := (some 55)) (oi := _) (v := ?_) rfl rfl (by kernel_rfl) (by kernel_rfl) (by kernel_rfl) (fun _ _ _ h => h) (by kernel_rfl) ?_ (by assumption) ?_
        rotate_left 1
        · intro w hSw; (try dsimp only at hSw); go_simp; (try with_reducible rfl)
        try simp only [Act.put, List.setIfInBounds_toArray, List.set_cons_zero, List.set_cons_succ]
        refine take_run (i := 23) (d := (some 56)) (oi := _) (v := ?_) rfl rfl (by kernel_rfl) (by kernel_rfl) (by kernel_rfl) (fun _ _ _ h => h) (by kernel_rfl) ?_ (by assumption) ?_
        rotate_left 1
        · intro w hSw; (try dsimp only at hSw); go_simp; (try with_reducible rfl)
        try simp only [Act.put, List.setIfInBounds_toArray, List.set_cons_zero, List.set_cons_succ]
        refine take_run (i := 24) (d := (some 57)) (oi := _) (v := ?_) rfl rfl (by kernel_rfl) (by kernel_rfl) (by kernel_rfl) (fun _ _ _ h => h) (by kernel_rfl) ?_ (by assumption) ?_
        rotate_left 1
        · intro w hSw; (try dsimp only at hSw); go_simp; (try with_reducible rfl)
        try simp only [Act.put, List.setIfInBounds_toArray, List.set_cons_zero, List.set_cons_succ]
        refine wpAnyH_ready (rs := [25]) (by kernel_rfl) (by simp) ?_
        refine AllReadyH.cons (o := _) rfl (fun K hK => ?_) AllReadyH.nil
        go_simp
        (first | (go_at_call 16; have hq := And.left ‹Ext V1 _ ∧ _›; (with_reducible refine (b_may r true HM.out V1 _ hq).mono ?_); rintro e w' ⟨rfl, hx'⟩) | (go_at_call 12; have hq := And.left ‹Ext V1 _ ∧ _›; (with_reducible refine (b_has r v true Q4.out V1 _ hq).mono ?_); rintro e w' ⟨rfl, hx'⟩) | (go_at_call 12; have hq := And.left ‹Ext V1 _ ∧ _›; (with_reducible refine (b_has a v true Q2.out V1 _ hq).mono ?_); rintro e w' ⟨rfl, hx'⟩) | (go_at_call 14; have hq := And.left ‹Ext V1 _ ∧ _›; (with_reducible refine (b_wakes V1 _ hq).mono ?_); rintro e w' ⟨rfl, hx'⟩))
        go_wp2_with fail
        refine hK.out _ _ ?_ (fun hHeld2 => ?_)
        · (try dsimp only); (first | exact SK.out _ hx' | exact SK.out _ hx'.drew)
        clear hK K hHeld
        have hHeld := hHeld2
        clear hHeld2
        try simp only [Act.put, List.setIfInBounds_toArray, List.set_cons_zero, List.set_cons_succ]
        refine take_run (i := 26) (d := (some 59)) (oi := _) (v := ?_) rfl rfl (by kernel_rfl) (by kernel_rfl) (by kernel_rfl) (fun _ _ _ h => h) (by kernel_rfl) ?_ (by assumption) ?_
        rotate_left 1
        · intro w hSw; (try dsimp only at hSw); go_simp; (try with_reducible rfl)
        try simp only [Act.put, List.setIfInBounds_toArray, List.set_cons_zero, List.set_cons_succ]
        refine take_run (i := 27) (d := (some 4)) (oi := _) (v := ?_) rfl rfl (by kernel_rfl) (by kernel_rfl) (by kernel_rfl) (fun _ _ _ h => h) (by kernel_rfl) ?_ (by assumption) ?_
        rotate_left 1
        · intro w hSw; (try dsimp only at hSw); go_simp; (try with_reducible rfl)
        try simp only [Act.put, List.setIfInBounds_toArray, List.set_cons_zero, List.set_cons_succ]
        refine wpAnyH_done (by kernel_rfl) ?_ _
        clear SK
        all_goals
          go_wp2_with fail
          go_ret
          exact ⟨rfl, hx.trans (xV1.trans (by assumption))⟩
    · as_aux_lemma =>
        have Q1 := hide q1
        have Q2 := hide q2
        have Q4 := hide (HH.out.trans q2)
        clear q1 q2
        obtain ⟨W3, hW3⟩ : ∃ W3, W3 = (w.alloc (.cells #[.int .u64 a.ul, .int .u64 a.uh, .int .i64 a.sl, .int .i64 a.sh] 24)) := ⟨_, rfl⟩
        have x3 : Ext w W3 := by rw [hW3]; exact ((Ext.refl w).alloc _)
        have MK := hide (fun w' (h : Ext W3 w') => bk1 (hW3 ▸ h))
        have hx' : Ext W3 W3 := Ext.refl _
        go_enter Try.func3, Try.ntmps3
        go_wp2_with fail
        rw [← hW3]
        clear hW3
        (try clear c0_0 c0_1 c0_2 c0_3 c0_f c0_l); have mk := MK.out _ hx'; have c0_0 : _ = some _ := mk.1.cell 0; have c0_1 : _ = some _ := mk.1.cell 1; have c0_2 : _ = some _ := mk.1.cell 2; have c0_3 : _ = some _ := mk.1.cell 3; have c0_f := mk.1.free; have c0_l := mk.1.lt; clear mk
        go_wp2_with (first
          | (go_at_call 11; (with_reducible refine (b_narl a r true HA.out HR.out HK.out W3 _ (by assumption)).mono ?_); rintro e w' ⟨rfl, hx'⟩; (try clear c0_0 c0_1 c0_2 c0_3 c0_f c0_l); have mk := MK.out _ hx'; have c0_0 : _ = some _ := mk.1.cell 0; have c0_1 : _ = some _ := mk.1.cell 1; have c0_2 : _ = some _ := mk.1.cell 2; have c0_3 : _ = some _ := mk.1.cell 3; have c0_f := mk.1.free; have c0_l := mk.1.lt; clear mk)
          | fail)
        obtain ⟨V1, hV1⟩ : ∃ V1, V1 = (w'.alloc (.cells #[.int .u64 r.ul, .int .u64 r.uh, .int .i64 r.sl, .int .i64 r.sh] 24)) := ⟨_, rfl⟩
        rw [← hV1]
        obtain ⟨b1, hb1⟩ : ∃ b1, b1 = w'.heap.size := ⟨_, rfl⟩
        rw [← hb1]
        have xV1 : Ext w V1 := by rw [hV1]; exact ((x3.trans hx').alloc _)
        have xq : Ext W3 V1 := by rw [hV1]; exact (hx'.alloc _)
        have cn : ∀ w2, Ext V1 w2 → Bk w2 (b1) #[.int .u64 r.ul, .int .u64 r.uh, .int .i64 r.sl, .int .i64 r.sh] 24 := fun w2 h => by rw [hb1]; have hh := bk1 (hV1 ▸ h); exact hh.1
        have MV1 := hide (fun w2 (h : Ext V1 w2) => (⟨cn w2 h, MK.out w2 (xq.trans h)⟩ : Bk w2 (b1) #[.int .u64 r.ul, .int .u64 r.uh, .int .i64 r.sl, .int .i64 r.sh] 24 ∧ _))
        have lb1 : w.heap.size ≤ b1 := by rw [hb1]; exact (x3.trans hx').size
        have n1_0 : w.heap.size < b1 := by rw [hb1]; exact (MK.out _ hx').1.lt
        clear hV1 hb1 xq cn hx'
        (try clear c0_0 c0_1 c0_2 c0_3 c0_f c0_l)
        have hx' : Ext V1 V1 := Ext.refl _
        (try clear c0_0 c0_1 c0_2 c0_3 c1_0 c1_1 c1_2 c1_3 c0_f c1_f c0_l c1_l); have mk := MV1.out _ hx'; have c0_0 : _ = some _ := mk.1.cell 0; have c0_1 : _ = some _ := mk.1.cell 1; have c0_2 : _ = some _ := mk.1.cell 2; have c0_3 : _ = some _ := mk.1.cell 3; have c0_f := mk.1.free; have c0_l := mk.1.lt; have c1_0 : _ = some _ := mk.2.1.cell 0; have c1_1 : _ = some _ := mk.2.1.cell 1; have c1_2 : _ = some _ := mk.2.1.cell 2; have c1_3 : _ = some _ := mk.2.1.cell 3; have c1_f := mk.2.1.free; have c1_l := mk.2.1.lt; clear mk
        go_wp2_with (first
          | (go_at_call 15; (with_reducible refine (b_sngl r s true HS.out Q1.out V1 _ (by assumption)).mono ?_); rintro e w' ⟨rfl, hx'⟩; (try clear c0_0 c0_1 c0_2 c0_3 c1_0 c1_1 c1_2 c1_3 c0_f c1_f c0_l c1_l); have mk := MV1.out _ hx'; have c0_0 : _ = some _ := mk.1.cell 0; have c0_1 : _ = some _ := mk.1.cell 1; have c0_2 : _ = some _ := mk.1.cell 2; have c0_3 : _ = some _ := mk.1.cell 3; have c0_f := mk.1.free; have c0_l := mk.1.lt; have c1_0 : _ = some _ := mk.2.1.cell 0; have c1_1 : _ = some _ := mk.2.1.cell 1; have c1_2 : _ = some _ := mk.2.1.cell 2; have c1_3 : _ = some _ := mk.2.1.cell 3; have c1_f := mk.2.1.free; have c1_l := mk.2.1.lt; clear mk)
          | fail)
        have SK : Hid (∀ w', Ext V1 w' → Ext V1 w' ∧ w'.cell? ⟨b1, 0, none⟩ = some (.int .u64 r.ul) ∧ w'.cell? ⟨b1, 1, none⟩ = some (.int .u64 r.uh) ∧ w'.cell? ⟨b1, 2, none⟩ = some (.int .i64 r.sl) ∧ w'.cell? ⟨b1, 3, none⟩ = some (.int .i64 r.sh) ∧ w'.cell? ⟨w.heap.size, 0, none⟩ = some (.int .u64 a.ul) ∧ w'.cell? ⟨w.heap.size, 1, none⟩ = some (.int .u64 a.uh) ∧ w'.cell? ⟨w.heap.size, 2, none⟩ = some (.int .i64 a.sl) ∧ w'.cell? ⟨w.heap.size, 3, none⟩ = some (.int .i64 a.sh)) := hide (fun w' h => ⟨h, (MV1.out _ h).1.cell 0, (MV1.out _ h).1.cell 1, (MV1.out _ h).1.cell 2, (MV1.out _ h).1.cell 3, (MV1.out _ h).2.1.cell 0, (MV1.out _ h).2.1.cell 1, (MV1.out _ h).2.1.cell 2, (MV1.out _ h).2.1.cell 3⟩)
        (try clear c0_0 c0_1 c0_2 c0_3 c1_0 c1_1 c1_2 c1_3 c0_f c1_f c0_l c1_l)
        go_region_held3 (fun w' => Ext V1 w' ∧ w'.cell? ⟨b1, 0, none⟩ = some (.int .u64 r.ul) ∧ w'.cell? ⟨b1, 1, none⟩ = some (.int .u64 r.uh) ∧ w'.cell? ⟨b1, 2, none⟩ = some (.int .i64 r.sl) ∧ w'.cell? ⟨b1, 3, none⟩ = some (.int .i64 r.sh) ∧ w'.cell? ⟨w.heap.size, 0, none⟩ = some (.int .u64 a.ul) ∧ w'.cell? ⟨w.heap.size, 1, none⟩ = some (.int .u64 a.uh) ∧ w'.cell? ⟨w.heap.size, 2, none⟩ = some (.int .i64 a.sl) ∧ w'.cell? ⟨w.heap.size, 3, none⟩ = some (.int .i64 a.sh))
          (first | exact SK.out _ hx' | exact SK.out _ hx'.drew)
          (first
          | (go_at_call 16; have hq := And.left ‹Ext V1 _ ∧ _›; (with_reducible refine (b_may r true HM.out V1 _ hq).mono ?_); rintro e w' ⟨rfl, hx'⟩)
          | (go_at_call 12; have hq := And.left ‹Ext V1 _ ∧ _›; (with_reducible refine (b_has r v true Q4.out V1 _ hq).mono ?_); rintro e w' ⟨rfl, hx'⟩)
          | (go_at_call 12; have hq := And.left ‹Ext V1 _ ∧ _›; (with_reducible refine (b_has a v true Q2.out V1 _ hq).mono ?_); rintro e w' ⟨rfl, hx'⟩)
          | (go_at_call 14; have hq := And.left ‹Ext V1 _ ∧ _›; (with_reducible refine (b_wakes V1 _ hq).mono ?_); rintro e w' ⟨rfl, hx'⟩))
        clear SK
        all_goals
          go_wp2_with fail
          go_ret
          exact ⟨rfl, hx.trans (xV1.trans (by assumption))⟩
    · as_aux_lemma =>
        have Q1 := hide q1
        have Q2 := hide q2
        have Q4 := hide (HH.out.trans q2)
        clear q1 q2
        obtain ⟨W3, hW3⟩ : ∃ W3, W3 = (w.alloc (.cells #[.int .u64 a.ul, .int .u64 a.uh, .int .i64 a.sl, .int .i64 a.sh] 24)) := ⟨_, rfl⟩
        have x3 : Ext w W3 := by rw [hW3]; exact ((Ext.refl w).alloc _)
        have MK := hide (fun w' (h : Ext W3 w') => bk1 (hW3 ▸ h))
        have hx' : Ext W3 W3 := Ext.refl _
        go_enter Try.func3, Try.ntmps3
        go_wp2_with fail
        rw [← hW3]
        clear hW3
        (try clear c0_0 c0_1 c0_2 c0_3 c0_f c0_l); have mk := MK.out _ hx'; have c0_0 : _ = some _ := mk.1.cell 0; have c0_1 : _ = some _ := mk.1.cell 1; have c0_2 : _ = some _ := mk.1.cell 2; have c0_3 : _ = some _ := mk.1.cell 3; have c0_f := mk.1.free; have c0_l := mk.1.lt; clear mk
        go_wp2_with (first
          | (go_at_call 11; (with_reducible refine (b_narl a r true HA.out HR.out HK.out W3 _ (by assumption)).mono ?_); rintro e w' ⟨rfl, hx'⟩; (try clear c0_0 c0_1 c0_2 c0_3 c0_f c0_l); have mk := MK.out _ hx'; have c0_0 : _ = some _ := mk.1.cell 0; have c0_1 : _ = some _ := mk.1.cell 1; have c0_2 : _ = some _ := mk.1.cell 2; have c0_3 : _ = some _ := mk.1.cell 3; have c0_f := mk.1.free; have c0_l := mk.1.lt; clear mk)
          | fail)
        obtain ⟨V1, hV1⟩ : ∃ V1, V1 = (w'.alloc (.cells #[.int .u64 r.ul, .int .u64 r.uh, .int .i64 r.sl, .int .i64 r.sh] 24)) := ⟨_, rfl⟩
        rw [← hV1]
        obtain ⟨b1, hb1⟩ : ∃ b1, b1 = w'.heap.size := ⟨_, rfl⟩
        rw [← hb1]
        have xV1 : Ext w V1 := by rw [hV1]; exact ((x3.trans hx').alloc _)
        have xq : Ext W3 V1 := by rw [hV1]; exact (hx'.alloc _)
        have cn : ∀ w2, Ext V1 w2 → Bk w2 (b1) #[.int .u64 r.ul, .int .u64 r.uh, .int .i64 r.sl, .int .i64 r.sh] 24 := fun w2 h => by rw [hb1]; have hh := bk1 (hV1 ▸ h); exact hh.1
        have MV1 := hide (fun w2 (h : Ext V1 w2) => (⟨cn w2 h, MK.out w2 (xq.trans h)⟩ : Bk w2 (b1) #[.int .u64 r.ul, .int .u64 r.uh, .int .i64 r.sl, .int .i64 r.sh] 24 ∧ _))
        have lb1 : w.heap.size ≤ b1 := by rw [hb1]; exact (x3.trans hx').size
        have n1_0 : w.heap.size < b1 := by rw [hb1]; exact (MK.out _ hx').1.lt
        clear hV1 hb1 xq cn hx'
        (try clear c0_0 c0_1 c0_2 c0_3 c0_f c0_l)
        have hx' : Ext V1 V1 := Ext.refl _
        (try clear c0_0 c0_1 c0_2 c0_3 c1_0 c1_1 c1_2 c1_3 c0_f c1_f c0_l c1_l); have mk := MV1.out _ hx'; have c0_0 : _ = some _ := mk.1.cell 0; have c0_1 : _ = some _ := mk.1.cell 1; have c0_2 : _ = some _ := mk.1.cell 2; have c0_3 : _ = some _ := mk.1.cell 3; have c0_f := mk.1.free; have c0_l := mk.1.lt; have c1_0 : _ = some _ := mk.2.1.cell 0; have c1_1 : _ = some _ := mk.2.1.cell 1; have c1_2 : _ = some _ := mk.2.1.cell 2; have c1_3 : _ = some _ := mk.2.1.cell 3; have c1_f := mk.2.1.free; have c1_l := mk.2.1.lt; clear mk
        go_wp2_with (first
          | (go_at_call 15; (with_reducible refine (b_sngl r s true HS.out Q1.out V1 _ (by assumption)).mono ?_); rintro e w' ⟨rfl, hx'⟩; (try clear c0_0 c0_1 c0_2 c0_3 c1_0 c1_1 c1_2 c1_3 c0_f c1_f c0_l c1_l); have mk := MV1.out _ hx'; have c0_0 : _ = some _ := mk.1.cell 0; have c0_1 : _ = some _ := mk.1.cell 1; have c0_2 : _ = some _ := mk.1.cell 2; have c0_3 : _ = some _ := mk.1.cell 3; have c0_f := mk.1.free; have c0_l := mk.1.lt; have c1_0 : _ = some _ := mk.2.1.cell 0; have c1_1 : _ = some _ := mk.2.1.cell 1; have c1_2 : _ = some _ := mk.2.1.cell 2; have c1_3 : _ = some _ := mk.2.1.cell 3; have c1_f := mk.2.1.free; have c1_l := mk.2.1.lt; clear mk)
          | fail)
        have SK : Hid (∀ w', Ext V1 w' → Ext V1 w' ∧ w'.cell? ⟨b1, 0, none⟩ = some (.int .u64 r.ul) ∧ w'.cell? ⟨b1, 1, none⟩ = some (.int .u64 r.uh) ∧ w'.cell? ⟨b1, 2, none⟩ = some (.int .i64 r.sl) ∧ w'.cell? ⟨b1, 3, none⟩ = some (.int .i64 r.sh) ∧ w'.cell? ⟨w.heap.size, 0, none⟩ = some (.int .u64 a.ul) ∧ w'.cell? ⟨w.heap.size, 1, none⟩ = some (.int .u64 a.uh) ∧ w'.cell? ⟨w.heap.size, 2, none⟩ = some (.int .i64 a.sl) ∧ w'.cell? ⟨w.heap.size, 3, none⟩ = some (.int .i64 a.sh)) := hide (fun w' h => ⟨h, (MV1.out _ h).1.cell 0, (MV1.out _ h).1.cell 1, (MV1.out _ h).1.cell 2, (MV1.out _ h).1.cell 3, (MV1.out _ h).2.1.cell 0, (MV1.out _ h).2.1.cell 1, (MV1.out _ h).2.1.cell 2, (MV1.out _ h).2.1.cell 3⟩)
        (try clear c0_0 c0_1 c0_2 c0_3 c1_0 c1_1 c1_2 c1_3 c0_f c1_f c0_l c1_l)
        go_region_held3 (fun w' => Ext V1 w' ∧ w'.cell? ⟨b1, 0, none⟩ = some (.int .u64 r.ul) ∧ w'.cell? ⟨b1, 1, none⟩ = some (.int .u64 r.uh) ∧ w'.cell? ⟨b1, 2, none⟩ = some (.int .i64 r.sl) ∧ w'.cell? ⟨b1, 3, none⟩ = some (.int .i64 r.sh) ∧ w'.cell? ⟨w.heap.size, 0, none⟩ = some (.int .u64 a.ul) ∧ w'.cell? ⟨w.heap.size, 1, none⟩ = some (.int .u64 a.uh) ∧ w'.cell? ⟨w.heap.size, 2, none⟩ = some (.int .i64 a.sl) ∧ w'.cell? ⟨w.heap.size, 3, none⟩ = some (.int .i64 a.sh))
          (first | exact SK.out _ hx' | exact SK.out _ hx'.drew)
          (first
          | (go_at_call 16; have hq := And.left ‹Ext V1 _ ∧ _›; (with_reducible refine (b_may r true HM.out V1 _ hq).mono ?_); rintro e w' ⟨rfl, hx'⟩)
          | (go_at_call 12; have hq := And.left ‹Ext V1 _ ∧ _›; (with_reducible refine (b_has r v false Q4.out V1 _ hq).mono ?_); rintro e w' ⟨rfl, hx'⟩)
          | (go_at_call 12; have hq := And.left ‹Ext V1 _ ∧ _›; (with_reducible refine (b_has a v false Q2.out V1 _ hq).mono ?_); rintro e w' ⟨rfl, hx'⟩)
          | (go_at_call 14; have hq := And.left ‹Ext V1 _ ∧ _›; (with_reducible refine (b_wakes V1 _ hq).mono ?_); rintro e w' ⟨rfl, hx'⟩))
        clear SK
        all_goals
          go_wp2_with fail
          go_ret
          exact ⟨rfl, hx.trans (xV1.trans (by assumption))⟩

set_option maxRecDepth 100000 in
theorem law_BoundsNarrow {H : Type} {enc : TypeId × Value → H} {W : World} {r : Reach} {b0 : Nat} (v0 : Value) (k0 : Value.okWide Try.prog W r b0 24 v0) (d0 : DataW H) (p0 : List MemPlace) (h0 : DataW.Trod enc Try.prog W 0 (fun _ => true) true 24 v0 d0 p0) (_ : ∀ x ∈ p0, x.block < W.heap.size)
    (a1 : Int) (w1 : (Lit.int .u64 a1).wf = true) :
    Calls Try.prog 3 #[v0, .int .u64 a1] W fun e W' => e = .returned (.bool true) ∧ Below W.heap.size W W' := by
  obtain ⟨q0, rfl, g0⟩ := Rg.of_arg k0 h0
  exact bn_walk q0 a1 g0 (wf_u64 w1).1 (wf_u64 w1).2 W W (Ext.refl W)
end Go.Proofs.Ytcngfmhhaleoaaa
