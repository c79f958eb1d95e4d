/- The walk of sum of package bounds. -/
import Derived.Test.YtcngfmhhaleoaaaBdN
import Derived.Test.YtcngfmhhaleoaaaBdS
import Derived.Test.YtcngfmhhaleoaaaBdT
import Derived.Laws.Externs
import Derived.IntWalk
import Derived.Deep.RegionHeld3
import Derived.Deep.RegionWith
import Derived.Deep.DeepCutAuto
import Derived.Deep.CutBlock
set_option linter.unusedVariables false
set_option linter.unusedSimpArgs false
namespace Go.Proofs.Ytcngfmhhaleoaaa
open Go.RowKit Go.ChangeShapes Go.WideShapes

theorem b_add64 (x y s o : Int) (x0 : 0 ≤ x) (y0 : 0 ≤ y) (hs : (x + y) % 18446744073709551616 = s) (ho : (x + y) / 18446744073709551616 = o) (w : World) :
    (callFunc 103 #[.int .u64 x, .int .u64 y, .int .u64 0]).run Try.prog w = .ok (.value (.tuple #[.int .u64 s, .int .u64 o])) w := by
  rw [run_callFunc_extern Try.func103 (by kernel_rfl) (by kernel_rfl) (by kernel_rfl) (e := add64Entry) (by kernel_rfl), run_add64 x y 0 x0 y0 (by omega) (by omega)]
  simp only [Result.andThen, Int.add_zero]
  rw [hs, ho]
theorem b_plusl (a b s : Int) (t : Bool) (hb : (-9223372036854775808 ≤ a ∧ a ≤ 9223372036854775807) ∧ (-9223372036854775808 ≤ b ∧ b ≤ 9223372036854775807)) (hs : wrap64 (a + b) = s) (ht : decide (-9223372036854775808 ≤ a + b ∧ a + b ≤ 9223372036854775807) = t) (W w : World) (hx : Ext W w) :
    Calls Try.prog 101 #[.int .i64 a, .int .i64 b] w fun e w' => e = .returned (.tuple #[.int .i64 s, .bool t]) ∧ Ext W w' := by
  rw [← hs, ← ht]
  exact b_plus a b hb.1.1 hb.1.2 hb.2.1 hb.2.2 W w hx
theorem b_minusl (a b s : Int) (t : Bool) (hb : (-9223372036854775808 ≤ a ∧ a ≤ 9223372036854775807) ∧ (-9223372036854775808 ≤ b ∧ b ≤ 9223372036854775807)) (hs : wrap64 (a - b) = s) (ht : decide (-9223372036854775808 ≤ a - b ∧ a - b ≤ 9223372036854775807) = t) (W w : World) (hx : Ext W w) :
    Calls Try.prog 102 #[.int .i64 a, .int .i64 b] w fun e w' => e = .returned (.tuple #[.int .i64 s, .bool t]) ∧ Ext W w' := by
  rw [← hs, ← ht]
  exact b_minus a b hb.1.1 hb.1.2 hb.2.1 hb.2.2 W w hx

set_option maxRecDepth 100000 in
set_option maxHeartbeats 16000000 in
theorem b_sum (a b : Rg) (ha : a.wf) (hb : b.wf) (ma : bmay a = true) (mb : bmay b = true) (W w : World) (hx : Ext W w) :
    Calls Try.prog 71 #[.agg #[.int .u64 a.ul, .int .u64 a.uh, .int .i64 a.sl, .int .i64 a.sh], .agg #[.int .u64 b.ul, .int .u64 b.uh, .int .i64 b.sl, .int .i64 b.sh], .bool false] w fun e w' => e = .returned (.agg #[.int .u64 (bsum a b).ul, .int .u64 (bsum a b).uh, .int .i64 (bsum a b).sl, .int .i64 (bsum a b).sh]) ∧ Ext W w' := by
  have c2 := (bmay_iff a).1 ma
  have c3 := (bmay_iff b).1 mb
  have MB := (show a.wf ∧ b.wf from ⟨ha, hb⟩)
  obtain ⟨⟨⟨a0, a1⟩, ⟨a2, a3⟩, ⟨a4, a5⟩, a6, a7⟩, ⟨b0, b1⟩, ⟨b2, b3⟩, ⟨b4, b5⟩, b6, b7⟩ := MB
  have MB := True.intro
  by_cases cu : a.uh + b.uh ≤ 18446744073709551615
  all_goals by_cases cx : (-9223372036854775808 ≤ a.sl + b.sl ∧ a.sl + b.sl ≤ 9223372036854775807)
  all_goals by_cases cy : (-9223372036854775808 ≤ a.sh + b.sh ∧ a.sh + b.sh ≤ 9223372036854775807)
  · as_aux_lemma =>
      obtain ⟨W3, hW3⟩ : ∃ W3, W3 = (((w.alloc (.cells #[.int .u64 a.ul, .int .u64 a.uh, .int .i64 a.sl, .int .i64 a.sh] 24)).alloc (.cells #[.int .u64 b.ul, .int .u64 b.uh, .int .i64 b.sl, .int .i64 b.sh] 24)).alloc (.cells #[.int .u64 0, .int .u64 0, .int .i64 0, .int .i64 0] 24)) := ⟨_, rfl⟩
      have x3 : Ext w W3 := by rw [hW3]; exact ((((Ext.refl w).alloc _).alloc _).alloc _)
      have MK := hide (fun w' (h : Ext W3 w') => bk3 (hW3 ▸ h))
      have hx' : Ext W3 W3 := Ext.refl _
      obtain ⟨sx, hsx⟩ : ∃ sx, wrap64 (a.sl + b.sl) = sx := ⟨_, rfl⟩
      obtain ⟨sy, hsy⟩ : ∃ sy, wrap64 (a.sh + b.sh) = sy := ⟨_, rfl⟩
      have HSX := hide hsx
      have HSY := hide hsy
      have u1 : IntKind.u64.wrap (a.ul + b.ul) = a.ul + b.ul := by rw [w_u64]; omega
      have u2 : IntKind.u64.wrap (a.uh + b.uh) = a.uh + b.uh := by rw [w_u64]; omega
      have H64 := hide (b_add64 a.uh b.uh (a.uh + b.uh) 0 ha.2.1.1 hb.2.1.1 (by omega) (by omega))
      have e1 : sx = a.sl + b.sl := by rw [← hsx, Go.IntWalk.wrap64_in _ (by omega)]
      have e2 : sy = a.sh + b.sh := by rw [← hsy, Go.IntWalk.wrap64_in _ (by omega)]
      have E : Hid (bsum a b = (⟨a.ul + b.ul, a.uh + b.uh, (a.sl + b.sl), (a.sh + b.sh)⟩ : Rg)) := hide (by unfold bsum; simp only [Rg.mk.injEq]; refine ⟨?_, ?_, ?_, ?_⟩ <;> (split <;> omega))
      have D1 : Hid (decide (-9223372036854775808 ≤ a.sl + b.sl ∧ a.sl + b.sl ≤ 9223372036854775807) = true) := hide (by simp; omega)
      have D2 : Hid (decide (-9223372036854775808 ≤ a.sh + b.sh ∧ a.sh + b.sh ≤ 9223372036854775807) = true) := hide (by simp; omega)
      have B1 := hide (show (-9223372036854775808 ≤ a.sl ∧ a.sl ≤ 9223372036854775807) ∧ (-9223372036854775808 ≤ b.sl ∧ b.sl ≤ 9223372036854775807) from ⟨ha.2.2.1, hb.2.2.1⟩)
      have B2 := hide (show (-9223372036854775808 ≤ a.sh ∧ a.sh ≤ 9223372036854775807) ∧ (-9223372036854775808 ≤ b.sh ∧ b.sh ≤ 9223372036854775807) from ⟨ha.2.2.2, hb.2.2.2⟩)
      have E1 := hide e1
      have E2 := hide e2
      clear e1 e2
      clear hsx hsy c2 c3 MB
      go_enter Try.func71, Try.ntmps71
      go_wp2_with fail
      rw [← hW3]
      clear hW3
      (try clear c0_0 c0_1 c0_2 c0_3 c1_0 c1_1 c1_2 c1_3 c2_0 c2_1 c2_2 c2_3 c0_f c1_f c2_f c0_l c1_l c2_l); have mk := MK.out _ hx'; have c0_0 : _ = some _ := mk.1.cell 0; have c0_1 : _ = some _ := mk.1.cell 1; have c0_2 : _ = some _ := mk.1.cell 2; have c0_3 : _ = some _ := mk.1.cell 3; have c0_f := mk.1.free; have c0_l := mk.1.lt; have c1_0 : _ = some _ := mk.2.1.cell 0; have c1_1 : _ = some _ := mk.2.1.cell 1; have c1_2 : _ = some _ := mk.2.1.cell 2; have c1_3 : _ = some _ := mk.2.1.cell 3; have c1_f := mk.2.1.free; have c1_l := mk.2.1.lt; have c2_0 : _ = some _ := mk.2.2.1.cell 0; have c2_1 : _ = some _ := mk.2.2.1.cell 1; have c2_2 : _ = some _ := mk.2.2.1.cell 2; have c2_3 : _ = some _ := mk.2.2.1.cell 3; have c2_f := mk.2.2.1.free; have c2_l := mk.2.2.1.lt; clear mk
      go_wp2_with (first
        | (go_at_call 13; (with_reducible refine (b_all W3 _ (by assumption)).mono ?_); rintro e w' ⟨rfl, hx'⟩; (try clear c0_0 c0_1 c0_2 c0_3 c1_0 c1_1 c1_2 c1_3 c2_0 c2_1 c2_2 c2_3 c0_f c1_f c2_f c0_l c1_l c2_l); have mk := MK.out _ hx'; have c0_0 : _ = some _ := mk.1.cell 0; have c0_1 : _ = some _ := mk.1.cell 1; have c0_2 : _ = some _ := mk.1.cell 2; have c0_3 : _ = some _ := mk.1.cell 3; have c0_f := mk.1.free; have c0_l := mk.1.lt; have c1_0 : _ = some _ := mk.2.1.cell 0; have c1_1 : _ = some _ := mk.2.1.cell 1; have c1_2 : _ = some _ := mk.2.1.cell 2; have c1_3 : _ = some _ := mk.2.1.cell 3; have c1_f := mk.2.1.free; have c1_l := mk.2.1.lt; have c2_0 : _ = some _ := mk.2.2.1.cell 0; have c2_1 : _ = some _ := mk.2.2.1.cell 1; have c2_2 : _ = some _ := mk.2.2.1.cell 2; have c2_3 : _ = some _ := mk.2.2.1.cell 3; have c2_f := mk.2.2.1.free; have c2_l := mk.2.2.1.lt; clear mk)
        | fail)
      obtain ⟨V1, hV1⟩ : ∃ V1, V1 = (w'.alloc (.cells #[.int .u64 ball.ul, .int .u64 ball.uh, .int .i64 ball.sl, .int .i64 ball.sh] 24)) := ⟨_, rfl⟩
      rw [← hV1]
      obtain ⟨b1, hb1⟩ : ∃ b1, b1 = w'.heap.size := ⟨_, rfl⟩
      rw [← hb1]
      have xV1 : Ext w V1 := by rw [hV1]; exact ((x3.trans hx').alloc _)
      have xq : Ext W3 V1 := by rw [hV1]; exact (hx'.alloc _)
      have cn : ∀ w2, Ext V1 w2 → Bk w2 (b1) #[.int .u64 ball.ul, .int .u64 ball.uh, .int .i64 ball.sl, .int .i64 ball.sh] 24 := fun w2 h => by rw [hb1]; have hh := bk1 (hV1 ▸ h); exact hh.1
      have MV1 := hide (fun w2 (h : Ext V1 w2) => (⟨cn w2 h, MK.out w2 (xq.trans h)⟩ : Bk w2 (b1) #[.int .u64 ball.ul, .int .u64 ball.uh, .int .i64 ball.sl, .int .i64 ball.sh] 24 ∧ _))
      have lb1 : w.heap.size ≤ b1 := by rw [hb1]; exact (x3.trans hx').size
      have n1_0 : w.heap.size < b1 := by rw [hb1]; exact (MK.out _ hx').1.lt
      have n1_1 : w.heap.size + 1 < b1 := by rw [hb1]; exact (MK.out _ hx').2.1.lt
      have n1_2 : w.heap.size + 1 + 1 < b1 := by rw [hb1]; exact (MK.out _ hx').2.2.1.lt
      clear hV1 hb1 xq cn hx'
      (try clear c0_0 c0_1 c0_2 c0_3 c1_0 c1_1 c1_2 c1_3 c2_0 c2_1 c2_2 c2_3 c0_f c1_f c2_f c0_l c1_l c2_l)
      have hx' : Ext V1 V1 := Ext.refl _
      (try clear c0_0 c0_1 c0_2 c0_3 c1_0 c1_1 c1_2 c1_3 c2_0 c2_1 c2_2 c2_3 c3_0 c3_1 c3_2 c3_3 c0_f c1_f c2_f c3_f c0_l c1_l c2_l c3_l); have mk := MV1.out _ hx'; have c0_0 : _ = some _ := mk.1.cell 0; have c0_1 : _ = some _ := mk.1.cell 1; have c0_2 : _ = some _ := mk.1.cell 2; have c0_3 : _ = some _ := mk.1.cell 3; have c0_f := mk.1.free; have c0_l := mk.1.lt; have c1_0 : _ = some _ := mk.2.1.cell 0; have c1_1 : _ = some _ := mk.2.1.cell 1; have c1_2 : _ = some _ := mk.2.1.cell 2; have c1_3 : _ = some _ := mk.2.1.cell 3; have c1_f := mk.2.1.free; have c1_l := mk.2.1.lt; have c2_0 : _ = some _ := mk.2.2.1.cell 0; have c2_1 : _ = some _ := mk.2.2.1.cell 1; have c2_2 : _ = some _ := mk.2.2.1.cell 2; have c2_3 : _ = some _ := mk.2.2.1.cell 3; have c2_f := mk.2.2.1.free; have c2_l := mk.2.2.1.lt; have c3_0 : _ = some _ := mk.2.2.2.1.cell 0; have c3_1 : _ = some _ := mk.2.2.2.1.cell 1; have c3_2 : _ = some _ := mk.2.2.2.1.cell 2; have c3_3 : _ = some _ := mk.2.2.2.1.cell 3; have c3_f := mk.2.2.2.1.free; have c3_l := mk.2.2.2.1.lt; clear mk
      go_quiet (fail)
      go_wp2_with fail
      go_wp2_with (first
        | simp only [H64.out]
        | fail)
      obtain ⟨w', hw'⟩ : ∃ w', w' = V1.drewN nq := ⟨_, rfl⟩
      rw [← hw']
      have hx' : Ext V1 w' := by rw [hw']; exact (Ext.refl _).drewN nq
      clear hw'
      (try clear c0_0 c0_1 c0_2 c0_3 c1_0 c1_1 c1_2 c1_3 c2_0 c2_1 c2_2 c2_3 c3_0 c3_1 c3_2 c3_3 c0_f c1_f c2_f c3_f c0_l c1_l c2_l c3_l); have mk := MV1.out _ hx'; have c0_0 : _ = some _ := mk.1.cell 0; have c0_1 : _ = some _ := mk.1.cell 1; have c0_2 : _ = some _ := mk.1.cell 2; have c0_3 : _ = some _ := mk.1.cell 3; have c0_f := mk.1.free; have c0_l := mk.1.lt; have c1_0 : _ = some _ := mk.2.1.cell 0; have c1_1 : _ = some _ := mk.2.1.cell 1; have c1_2 : _ = some _ := mk.2.1.cell 2; have c1_3 : _ = some _ := mk.2.1.cell 3; have c1_f := mk.2.1.free; have c1_l := mk.2.1.lt; have c2_0 : _ = some _ := mk.2.2.1.cell 0; have c2_1 : _ = some _ := mk.2.2.1.cell 1; have c2_2 : _ = some _ := mk.2.2.1.cell 2; have c2_3 : _ = some _ := mk.2.2.1.cell 3; have c2_f := mk.2.2.1.free; have c2_l := mk.2.2.1.lt; have c3_0 : _ = some _ := mk.2.2.2.1.cell 0; have c3_1 : _ = some _ := mk.2.2.2.1.cell 1; have c3_2 : _ = some _ := mk.2.2.2.1.cell 2; have c3_3 : _ = some _ := mk.2.2.2.1.cell 3; have c3_f := mk.2.2.2.1.free; have c3_l := mk.2.2.2.1.lt; clear mk
      have MS2 : Hid (∀ w2, Ext V1 w2 → Ext w ((w2.setCell ⟨b1, 0, none⟩ (.int .u64 (a.ul + b.ul))).setCell ⟨b1, 1, none⟩ (.int .u64 (a.uh + b.uh))) ∧ Bk ((w2.setCell ⟨b1, 0, none⟩ (.int .u64 (a.ul + b.ul))).setCell ⟨b1, 1, none⟩ (.int .u64 (a.uh + b.uh))) (b1) #[.int .u64 (a.ul + b.ul), .int .u64 (a.uh + b.uh), .int .i64 ball.sl, .int .i64 ball.sh] 24 ∧ Bk ((w2.setCell ⟨b1, 0, none⟩ (.int .u64 (a.ul + b.ul))).setCell ⟨b1, 1, none⟩ (.int .u64 (a.uh + b.uh))) (w.heap.size) #[.int .u64 a.ul, .int .u64 a.uh, .int .i64 a.sl, .int .i64 a.sh] 24 ∧ Bk ((w2.setCell ⟨b1, 0, none⟩ (.int .u64 (a.ul + b.ul))).setCell ⟨b1, 1, none⟩ (.int .u64 (a.uh + b.uh))) (w.heap.size + 1) #[.int .u64 b.ul, .int .u64 b.uh, .int .i64 b.sl, .int .i64 b.sh] 24 ∧ Bk ((w2.setCell ⟨b1, 0, none⟩ (.int .u64 (a.ul + b.ul))).setCell ⟨b1, 1, none⟩ (.int .u64 (a.uh + b.uh))) (w.heap.size + 1 + 1) #[.int .u64 0, .int .u64 0, .int .i64 0, .int .i64 0] 24 ∧ True) := hide (fun w2 h => by
        have mk := MV1.out _ h
        exact ⟨(Ext.store1 (Ext.store1 (xV1.trans h) (by omega) _) (by omega) _), ((mk.1.set 0 (.int .u64 (a.ul + b.ul))).set 1 (.int .u64 (a.uh + b.uh))), ((mk.2.1.off (b1) 0 (.int .u64 (a.ul + b.ul)) (by omega)).off (b1) 1 (.int .u64 (a.uh + b.uh)) (by omega)), ((mk.2.2.1.off (b1) 0 (.int .u64 (a.ul + b.ul)) (by omega)).off (b1) 1 (.int .u64 (a.uh + b.uh)) (by omega)), ((mk.2.2.2.1.off (b1) 0 (.int .u64 (a.ul + b.ul)) (by omega)).off (b1) 1 (.int .u64 (a.uh + b.uh)) (by omega)), trivial⟩)
      obtain ⟨V2, hV2⟩ : ∃ V2, V2 = ((w'.setCell ⟨b1, 0, none⟩ (.int .u64 (a.ul + b.ul))).setCell ⟨b1, 1, none⟩ (.int .u64 (a.uh + b.uh))) := ⟨_, rfl⟩
      rw [← hV2]
      have ms := MS2.out _ hx'
      rw [← hV2] at ms
      have xV2 : Ext w V2 := ms.1
      have ms2 := hide ms.2
      have MV2 := hide (fun w2 (h : Ext V2 w2) => (⟨ms2.out.1.ext h, ms2.out.2.1.ext h, ms2.out.2.2.1.ext h, ms2.out.2.2.2.1.ext h, trivial⟩ : Bk w2 (b1) #[.int .u64 (a.ul + b.ul), .int .u64 (a.uh + b.uh), .int .i64 ball.sl, .int .i64 ball.sh] 24 ∧ Bk w2 (w.heap.size) #[.int .u64 a.ul, .int .u64 a.uh, .int .i64 a.sl, .int .i64 a.sh] 24 ∧ Bk w2 (w.heap.size + 1) #[.int .u64 b.ul, .int .u64 b.uh, .int .i64 b.sl, .int .i64 b.sh] 24 ∧ Bk w2 (w.heap.size + 1 + 1) #[.int .u64 0, .int .u64 0, .int .i64 0, .int .i64 0] 24 ∧ True))
      clear hV2 ms MS2 hx'
      (try clear c0_0 c0_1 c0_2 c0_3 c1_0 c1_1 c1_2 c1_3 c2_0 c2_1 c2_2 c2_3 c3_0 c3_1 c3_2 c3_3 c0_f c1_f c2_f c3_f c0_l c1_l c2_l c3_l)
      have hx' : Ext V2 V2 := Ext.refl _
      (try clear c0_0 c0_1 c0_2 c0_3 c1_0 c1_1 c1_2 c1_3 c2_0 c2_1 c2_2 c2_3 c3_0 c3_1 c3_2 c3_3 c0_f c1_f c2_f c3_f c0_l c1_l c2_l c3_l); have mk := MV2.out _ hx'; have c0_0 : _ = some _ := mk.1.cell 0; have c0_1 : _ = some _ := mk.1.cell 1; have c0_2 : _ = some _ := mk.1.cell 2; have c0_3 : _ = some _ := mk.1.cell 3; have c0_f := mk.1.free; have c0_l := mk.1.lt; have c1_0 : _ = some _ := mk.2.1.cell 0; have c1_1 : _ = some _ := mk.2.1.cell 1; have c1_2 : _ = some _ := mk.2.1.cell 2; have c1_3 : _ = some _ := mk.2.1.cell 3; have c1_f := mk.2.1.free; have c1_l := mk.2.1.lt; have c2_0 : _ = some _ := mk.2.2.1.cell 0; have c2_1 : _ = some _ := mk.2.2.1.cell 1; have c2_2 : _ = some _ := mk.2.2.1.cell 2; have c2_3 : _ = some _ := mk.2.2.1.cell 3; have c2_f := mk.2.2.1.free; have c2_l := mk.2.2.1.lt; have c3_0 : _ = some _ := mk.2.2.2.1.cell 0; have c3_1 : _ = some _ := mk.2.2.2.1.cell 1; have c3_2 : _ = some _ := mk.2.2.2.1.cell 2; have c3_3 : _ = some _ := mk.2.2.2.1.cell 3; have c3_f := mk.2.2.2.1.free; have c3_l := mk.2.2.2.1.lt; clear mk
      go_wp2_with (first
        | (go_at_call 101; (with_reducible refine (b_plusl a.sl b.sl sx _ B1.out HSX.out D1.out V2 _ (by assumption)).mono ?_); rintro e w' ⟨rfl, hx'⟩; (try clear c0_0 c0_1 c0_2 c0_3 c1_0 c1_1 c1_2 c1_3 c2_0 c2_1 c2_2 c2_3 c3_0 c3_1 c3_2 c3_3 c0_f c1_f c2_f c3_f c0_l c1_l c2_l c3_l); have mk := MV2.out _ hx'; have c0_0 : _ = some _ := mk.1.cell 0; have c0_1 : _ = some _ := mk.1.cell 1; have c0_2 : _ = some _ := mk.1.cell 2; have c0_3 : _ = some _ := mk.1.cell 3; have c0_f := mk.1.free; have c0_l := mk.1.lt; have c1_0 : _ = some _ := mk.2.1.cell 0; have c1_1 : _ = some _ := mk.2.1.cell 1; have c1_2 : _ = some _ := mk.2.1.cell 2; have c1_3 : _ = some _ := mk.2.1.cell 3; have c1_f := mk.2.1.free; have c1_l := mk.2.1.lt; have c2_0 : _ = some _ := mk.2.2.1.cell 0; have c2_1 : _ = some _ := mk.2.2.1.cell 1; have c2_2 : _ = some _ := mk.2.2.1.cell 2; have c2_3 : _ = some _ := mk.2.2.1.cell 3; have c2_f := mk.2.2.1.free; have c2_l := mk.2.2.1.lt; have c3_0 : _ = some _ := mk.2.2.2.1.cell 0; have c3_1 : _ = some _ := mk.2.2.2.1.cell 1; have c3_2 : _ = some _ := mk.2.2.2.1.cell 2; have c3_3 : _ = some _ := mk.2.2.2.1.cell 3; have c3_f := mk.2.2.2.1.free; have c3_l := mk.2.2.2.1.lt; clear mk)
        | (go_at_call 101; (with_reducible refine (b_plusl a.sh b.sh sy _ B2.out HSY.out D2.out V2 _ (by assumption)).mono ?_); rintro e w' ⟨rfl, hx'⟩; (try clear c0_0 c0_1 c0_2 c0_3 c1_0 c1_1 c1_2 c1_3 c2_0 c2_1 c2_2 c2_3 c3_0 c3_1 c3_2 c3_3 c0_f c1_f c2_f c3_f c0_l c1_l c2_l c3_l); have mk := MV2.out _ hx'; have c0_0 : _ = some _ := mk.1.cell 0; have c0_1 : _ = some _ := mk.1.cell 1; have c0_2 : _ = some _ := mk.1.cell 2; have c0_3 : _ = some _ := mk.1.cell 3; have c0_f := mk.1.free; have c0_l := mk.1.lt; have c1_0 : _ = some _ := mk.2.1.cell 0; have c1_1 : _ = some _ := mk.2.1.cell 1; have c1_2 : _ = some _ := mk.2.1.cell 2; have c1_3 : _ = some _ := mk.2.1.cell 3; have c1_f := mk.2.1.free; have c1_l := mk.2.1.lt; have c2_0 : _ = some _ := mk.2.2.1.cell 0; have c2_1 : _ = some _ := mk.2.2.1.cell 1; have c2_2 : _ = some _ := mk.2.2.1.cell 2; have c2_3 : _ = some _ := mk.2.2.1.cell 3; have c2_f := mk.2.2.1.free; have c2_l := mk.2.2.1.lt; have c3_0 : _ = some _ := mk.2.2.2.1.cell 0; have c3_1 : _ = some _ := mk.2.2.2.1.cell 1; have c3_2 : _ = some _ := mk.2.2.2.1.cell 2; have c3_3 : _ = some _ := mk.2.2.2.1.cell 3; have c3_f := mk.2.2.2.1.free; have c3_l := mk.2.2.2.1.lt; clear mk)
        | fail)
      have MS3 : Hid (∀ w2, Ext V2 w2 → Ext w ((w2.setCell ⟨b1, 2, none⟩ (.int .i64 sx)).setCell ⟨b1, 3, none⟩ (.int .i64 sy)) ∧ Bk ((w2.setCell ⟨b1, 2, none⟩ (.int .i64 sx)).setCell ⟨b1, 3, none⟩ (.int .i64 sy)) (b1) #[.int .u64 (a.ul + b.ul), .int .u64 (a.uh + b.uh), .int .i64 sx, .int .i64 sy] 24 ∧ Bk ((w2.setCell ⟨b1, 2, none⟩ (.int .i64 sx)).setCell ⟨b1, 3, none⟩ (.int .i64 sy)) (w.heap.size) #[.int .u64 a.ul, .int .u64 a.uh, .int .i64 a.sl, .int .i64 a.sh] 24 ∧ Bk ((w2.setCell ⟨b1, 2, none⟩ (.int .i64 sx)).setCell ⟨b1, 3, none⟩ (.int .i64 sy)) (w.heap.size + 1) #[.int .u64 b.ul, .int .u64 b.uh, .int .i64 b.sl, .int .i64 b.sh] 24 ∧ Bk ((w2.setCell ⟨b1, 2, none⟩ (.int .i64 sx)).setCell ⟨b1, 3, none⟩ (.int .i64 sy)) (w.heap.size + 1 + 1) #[.int .u64 0, .int .u64 0, .int .i64 0, .int .i64 0] 24 ∧ True) := hide (fun w2 h => by
        have mk := MV2.out _ h
        exact ⟨(Ext.store1 (Ext.store1 (xV2.trans h) (by omega) _) (by omega) _), ((mk.1.set 2 (.int .i64 sx)).set 3 (.int .i64 sy)), ((mk.2.1.off (b1) 2 (.int .i64 sx) (by omega)).off (b1) 3 (.int .i64 sy) (by omega)), ((mk.2.2.1.off (b1) 2 (.int .i64 sx) (by omega)).off (b1) 3 (.int .i64 sy) (by omega)), ((mk.2.2.2.1.off (b1) 2 (.int .i64 sx) (by omega)).off (b1) 3 (.int .i64 sy) (by omega)), trivial⟩)
      obtain ⟨V3, hV3⟩ : ∃ V3, V3 = ((w'.setCell ⟨b1, 2, none⟩ (.int .i64 sx)).setCell ⟨b1, 3, none⟩ (.int .i64 sy)) := ⟨_, rfl⟩
      rw [← hV3]
      have ms := MS3.out _ hx'
      rw [← hV3] at ms
      have xV3 : Ext w V3 := ms.1
      have ms2 := hide ms.2
      have MV3 := hide (fun w2 (h : Ext V3 w2) => (⟨ms2.out.1.ext h, ms2.out.2.1.ext h, ms2.out.2.2.1.ext h, ms2.out.2.2.2.1.ext h, trivial⟩ : Bk w2 (b1) #[.int .u64 (a.ul + b.ul), .int .u64 (a.uh + b.uh), .int .i64 sx, .int .i64 sy] 24 ∧ Bk w2 (w.heap.size) #[.int .u64 a.ul, .int .u64 a.uh, .int .i64 a.sl, .int .i64 a.sh] 24 ∧ Bk w2 (w.heap.size + 1) #[.int .u64 b.ul, .int .u64 b.uh, .int .i64 b.sl, .int .i64 b.sh] 24 ∧ Bk w2 (w.heap.size + 1 + 1) #[.int .u64 0, .int .u64 0, .int .i64 0, .int .i64 0] 24 ∧ True))
      clear hV3 ms MS3 hx'
      (try clear c0_0 c0_1 c0_2 c0_3 c1_0 c1_1 c1_2 c1_3 c2_0 c2_1 c2_2 c2_3 c3_0 c3_1 c3_2 c3_3 c0_f c1_f c2_f c3_f c0_l c1_l c2_l c3_l)
      have hx' : Ext V3 V3 := Ext.refl _
      (try clear c0_0 c0_1 c0_2 c0_3 c1_0 c1_1 c1_2 c1_3 c2_0 c2_1 c2_2 c2_3 c3_0 c3_1 c3_2 c3_3 c0_f c1_f c2_f c3_f c0_l c1_l c2_l c3_l); have mk := MV3.out _ hx'; have c0_0 : _ = some _ := mk.1.cell 0; have c0_1 : _ = some _ := mk.1.cell 1; have c0_2 : _ = some _ := mk.1.cell 2; have c0_3 : _ = some _ := mk.1.cell 3; have c0_f := mk.1.free; have c0_l := mk.1.lt; have c1_0 : _ = some _ := mk.2.1.cell 0; have c1_1 : _ = some _ := mk.2.1.cell 1; have c1_2 : _ = some _ := mk.2.1.cell 2; have c1_3 : _ = some _ := mk.2.1.cell 3; have c1_f := mk.2.1.free; have c1_l := mk.2.1.lt; have c2_0 : _ = some _ := mk.2.2.1.cell 0; have c2_1 : _ = some _ := mk.2.2.1.cell 1; have c2_2 : _ = some _ := mk.2.2.1.cell 2; have c2_3 : _ = some _ := mk.2.2.1.cell 3; have c2_f := mk.2.2.1.free; have c2_l := mk.2.2.1.lt; have c3_0 : _ = some _ := mk.2.2.2.1.cell 0; have c3_1 : _ = some _ := mk.2.2.2.1.cell 1; have c3_2 : _ = some _ := mk.2.2.2.1.cell 2; have c3_3 : _ = some _ := mk.2.2.2.1.cell 3; have c3_f := mk.2.2.2.1.free; have c3_l := mk.2.2.2.1.lt; clear mk
      go_wp2_with fail
      exact bodyPost_ret (by simp [results, Try.results71, go_sem, c3_0, c3_1, c3_2, c3_3, c3_l, Nat.ne_of_lt c3_l, Nat.ne_of_gt c3_l] <;> (first | exact ⟨rfl, rfl⟩ | exact ⟨rfl, rfl, rfl, rfl⟩ | rfl)) rfl ⟨by rw [E.out, ← E1.out, ← E2.out] <;> rfl, by (refine hx.trans ?_; with_reducible repeat (first | assumption | exact xV3.trans hx' | exact xV3.trans (by assumption) | apply Ext.alloc | apply Ext.drew | (refine Ext.store1 ?_ (by omega) _)))⟩
  · as_aux_lemma =>
      obtain ⟨W3, hW3⟩ : ∃ W3, W3 = (((w.alloc (.cells #[.int .u64 a.ul, .int .u64 a.uh, .int .i64 a.sl, .int .i64 a.sh] 24)).alloc (.cells #[.int .u64 b.ul, .int .u64 b.uh, .int .i64 b.sl, .int .i64 b.sh] 24)).alloc (.cells #[.int .u64 0, .int .u64 0, .int .i64 0, .int .i64 0] 24)) := ⟨_, rfl⟩
      have x3 : Ext w W3 := by rw [hW3]; exact ((((Ext.refl w).alloc _).alloc _).alloc _)
      have MK := hide (fun w' (h : Ext W3 w') => bk3 (hW3 ▸ h))
      have hx' : Ext W3 W3 := Ext.refl _
      obtain ⟨sx, hsx⟩ : ∃ sx, wrap64 (a.sl + b.sl) = sx := ⟨_, rfl⟩
      obtain ⟨sy, hsy⟩ : ∃ sy, wrap64 (a.sh + b.sh) = sy := ⟨_, rfl⟩
      have HSX := hide hsx
      have HSY := hide hsy
      have u1 : IntKind.u64.wrap (a.ul + b.ul) = a.ul + b.ul := by rw [w_u64]; omega
      have u2 : IntKind.u64.wrap (a.uh + b.uh) = a.uh + b.uh := by rw [w_u64]; omega
      have H64 := hide (b_add64 a.uh b.uh (a.uh + b.uh) 0 ha.2.1.1 hb.2.1.1 (by omega) (by omega))
      have E : Hid (bsum a b = (⟨a.ul + b.ul, a.uh + b.uh, -9223372036854775808, 9223372036854775807⟩ : Rg)) := hide (by unfold bsum; simp only [Rg.mk.injEq]; refine ⟨?_, ?_, ?_, ?_⟩ <;> (split <;> omega))
      have D1 : Hid (decide (-9223372036854775808 ≤ a.sl + b.sl ∧ a.sl + b.sl ≤ 9223372036854775807) = true) := hide (by simp; omega)
      have D2 : Hid (decide (-9223372036854775808 ≤ a.sh + b.sh ∧ a.sh + b.sh ≤ 9223372036854775807) = false) := hide (by simp; omega)
      have B1 := hide (show (-9223372036854775808 ≤ a.sl ∧ a.sl ≤ 9223372036854775807) ∧ (-9223372036854775808 ≤ b.sl ∧ b.sl ≤ 9223372036854775807) from ⟨ha.2.2.1, hb.2.2.1⟩)
      have B2 := hide (show (-9223372036854775808 ≤ a.sh ∧ a.sh ≤ 9223372036854775807) ∧ (-9223372036854775808 ≤ b.sh ∧ b.sh ≤ 9223372036854775807) from ⟨ha.2.2.2, hb.2.2.2⟩)
      clear hsx hsy c2 c3 MB
      go_enter Try.func71, Try.ntmps71
      go_wp2_with fail
      rw [← hW3]
      clear hW3
      (try clear c0_0 c0_1 c0_2 c0_3 c1_0 c1_1 c1_2 c1_3 c2_0 c2_1 c2_2 c2_3 c0_f c1_f c2_f c0_l c1_l c2_l); have mk := MK.out _ hx'; have c0_0 : _ = some _ := mk.1.cell 0; have c0_1 : _ = some _ := mk.1.cell 1; have c0_2 : _ = some _ := mk.1.cell 2; have c0_3 : _ = some _ := mk.1.cell 3; have c0_f := mk.1.free; have c0_l := mk.1.lt; have c1_0 : _ = some _ := mk.2.1.cell 0; have c1_1 : _ = some _ := mk.2.1.cell 1; have c1_2 : _ = some _ := mk.2.1.cell 2; have c1_3 : _ = some _ := mk.2.1.cell 3; have c1_f := mk.2.1.free; have c1_l := mk.2.1.lt; have c2_0 : _ = some _ := mk.2.2.1.cell 0; have c2_1 : _ = some _ := mk.2.2.1.cell 1; have c2_2 : _ = some _ := mk.2.2.1.cell 2; have c2_3 : _ = some _ := mk.2.2.1.cell 3; have c2_f := mk.2.2.1.free; have c2_l := mk.2.2.1.lt; clear mk
      go_wp2_with (first
        | (go_at_call 13; (with_reducible refine (b_all W3 _ (by assumption)).mono ?_); rintro e w' ⟨rfl, hx'⟩; (try clear c0_0 c0_1 c0_2 c0_3 c1_0 c1_1 c1_2 c1_3 c2_0 c2_1 c2_2 c2_3 c0_f c1_f c2_f c0_l c1_l c2_l); have mk := MK.out _ hx'; have c0_0 : _ = some _ := mk.1.cell 0; have c0_1 : _ = some _ := mk.1.cell 1; have c0_2 : _ = some _ := mk.1.cell 2; have c0_3 : _ = some _ := mk.1.cell 3; have c0_f := mk.1.free; have c0_l := mk.1.lt; have c1_0 : _ = some _ := mk.2.1.cell 0; have c1_1 : _ = some _ := mk.2.1.cell 1; have c1_2 : _ = some _ := mk.2.1.cell 2; have c1_3 : _ = some _ := mk.2.1.cell 3; have c1_f := mk.2.1.free; have c1_l := mk.2.1.lt; have c2_0 : _ = some _ := mk.2.2.1.cell 0; have c2_1 : _ = some _ := mk.2.2.1.cell 1; have c2_2 : _ = some _ := mk.2.2.1.cell 2; have c2_3 : _ = some _ := mk.2.2.1.cell 3; have c2_f := mk.2.2.1.free; have c2_l := mk.2.2.1.lt; clear mk)
        | fail)
      obtain ⟨V1, hV1⟩ : ∃ V1, V1 = (w'.alloc (.cells #[.int .u64 ball.ul, .int .u64 ball.uh, .int .i64 ball.sl, .int .i64 ball.sh] 24)) := ⟨_, rfl⟩
      rw [← hV1]
      obtain ⟨b1, hb1⟩ : ∃ b1, b1 = w'.heap.size := ⟨_, rfl⟩
      rw [← hb1]
      have xV1 : Ext w V1 := by rw [hV1]; exact ((x3.trans hx').alloc _)
      have xq : Ext W3 V1 := by rw [hV1]; exact (hx'.alloc _)
      have cn : ∀ w2, Ext V1 w2 → Bk w2 (b1) #[.int .u64 ball.ul, .int .u64 ball.uh, .int .i64 ball.sl, .int .i64 ball.sh] 24 := fun w2 h => by rw [hb1]; have hh := bk1 (hV1 ▸ h); exact hh.1
      have MV1 := hide (fun w2 (h : Ext V1 w2) => (⟨cn w2 h, MK.out w2 (xq.trans h)⟩ : Bk w2 (b1) #[.int .u64 ball.ul, .int .u64 ball.uh, .int .i64 ball.sl, .int .i64 ball.sh] 24 ∧ _))
      have lb1 : w.heap.size ≤ b1 := by rw [hb1]; exact (x3.trans hx').size
      have n1_0 : w.heap.size < b1 := by rw [hb1]; exact (MK.out _ hx').1.lt
      have n1_1 : w.heap.size + 1 < b1 := by rw [hb1]; exact (MK.out _ hx').2.1.lt
      have n1_2 : w.heap.size + 1 + 1 < b1 := by rw [hb1]; exact (MK.out _ hx').2.2.1.lt
      clear hV1 hb1 xq cn hx'
      (try clear c0_0 c0_1 c0_2 c0_3 c1_0 c1_1 c1_2 c1_3 c2_0 c2_1 c2_2 c2_3 c0_f c1_f c2_f c0_l c1_l c2_l)
      have hx' : Ext V1 V1 := Ext.refl _
      (try clear c0_0 c0_1 c0_2 c0_3 c1_0 c1_1 c1_2 c1_3 c2_0 c2_1 c2_2 c2_3 c3_0 c3_1 c3_2 c3_3 c0_f c1_f c2_f c3_f c0_l c1_l c2_l c3_l); have mk := MV1.out _ hx'; have c0_0 : _ = some _ := mk.1.cell 0; have c0_1 : _ = some _ := mk.1.cell 1; have c0_2 : _ = some _ := mk.1.cell 2; have c0_3 : _ = some _ := mk.1.cell 3; have c0_f := mk.1.free; have c0_l := mk.1.lt; have c1_0 : _ = some _ := mk.2.1.cell 0; have c1_1 : _ = some _ := mk.2.1.cell 1; have c1_2 : _ = some _ := mk.2.1.cell 2; have c1_3 : _ = some _ := mk.2.1.cell 3; have c1_f := mk.2.1.free; have c1_l := mk.2.1.lt; have c2_0 : _ = some _ := mk.2.2.1.cell 0; have c2_1 : _ = some _ := mk.2.2.1.cell 1; have c2_2 : _ = some _ := mk.2.2.1.cell 2; have c2_3 : _ = some _ := mk.2.2.1.cell 3; have c2_f := mk.2.2.1.free; have c2_l := mk.2.2.1.lt; have c3_0 : _ = some _ := mk.2.2.2.1.cell 0; have c3_1 : _ = some _ := mk.2.2.2.1.cell 1; have c3_2 : _ = some _ := mk.2.2.2.1.cell 2; have c3_3 : _ = some _ := mk.2.2.2.1.cell 3; have c3_f := mk.2.2.2.1.free; have c3_l := mk.2.2.2.1.lt; clear mk
      go_quiet (fail)
      go_wp2_with fail
      go_wp2_with (first
        | simp only [H64.out]
        | fail)
      obtain ⟨w', hw'⟩ : ∃ w', w' = V1.drewN nq := ⟨_, rfl⟩
      rw [← hw']
      have hx' : Ext V1 w' := by rw [hw']; exact (Ext.refl _).drewN nq
      clear hw'
      (try clear c0_0 c0_1 c0_2 c0_3 c1_0 c1_1 c1_2 c1_3 c2_0 c2_1 c2_2 c2_3 c3_0 c3_1 c3_2 c3_3 c0_f c1_f c2_f c3_f c0_l c1_l c2_l c3_l); have mk := MV1.out _ hx'; have c0_0 : _ = some _ := mk.1.cell 0; have c0_1 : _ = some _ := mk.1.cell 1; have c0_2 : _ = some _ := mk.1.cell 2; have c0_3 : _ = some _ := mk.1.cell 3; have c0_f := mk.1.free; have c0_l := mk.1.lt; have c1_0 : _ = some _ := mk.2.1.cell 0; have c1_1 : _ = some _ := mk.2.1.cell 1; have c1_2 : _ = some _ := mk.2.1.cell 2; have c1_3 : _ = some _ := mk.2.1.cell 3; have c1_f := mk.2.1.free; have c1_l := mk.2.1.lt; have c2_0 : _ = some _ := mk.2.2.1.cell 0; have c2_1 : _ = some _ := mk.2.2.1.cell 1; have c2_2 : _ = some _ := mk.2.2.1.cell 2; have c2_3 : _ = some _ := mk.2.2.1.cell 3; have c2_f := mk.2.2.1.free; have c2_l := mk.2.2.1.lt; have c3_0 : _ = some _ := mk.2.2.2.1.cell 0; have c3_1 : _ = some _ := mk.2.2.2.1.cell 1; have c3_2 : _ = some _ := mk.2.2.2.1.cell 2; have c3_3 : _ = some _ := mk.2.2.2.1.cell 3; have c3_f := mk.2.2.2.1.free; have c3_l := mk.2.2.2.1.lt; clear mk
      have MS2 : Hid (∀ w2, Ext V1 w2 → Ext w ((w2.setCell ⟨b1, 0, none⟩ (.int .u64 (a.ul + b.ul))).setCell ⟨b1, 1, none⟩ (.int .u64 (a.uh + b.uh))) ∧ Bk ((w2.setCell ⟨b1, 0, none⟩ (.int .u64 (a.ul + b.ul))).setCell ⟨b1, 1, none⟩ (.int .u64 (a.uh + b.uh))) (b1) #[.int .u64 (a.ul + b.ul), .int .u64 (a.uh + b.uh), .int .i64 ball.sl, .int .i64 ball.sh] 24 ∧ Bk ((w2.setCell ⟨b1, 0, none⟩ (.int .u64 (a.ul + b.ul))).setCell ⟨b1, 1, none⟩ (.int .u64 (a.uh + b.uh))) (w.heap.size) #[.int .u64 a.ul, .int .u64 a.uh, .int .i64 a.sl, .int .i64 a.sh] 24 ∧ Bk ((w2.setCell ⟨b1, 0, none⟩ (.int .u64 (a.ul + b.ul))).setCell ⟨b1, 1, none⟩ (.int .u64 (a.uh + b.uh))) (w.heap.size + 1) #[.int .u64 b.ul, .int .u64 b.uh, .int .i64 b.sl, .int .i64 b.sh] 24 ∧ Bk ((w2.setCell ⟨b1, 0, none⟩ (.int .u64 (a.ul + b.ul))).setCell ⟨b1, 1, none⟩ (.int .u64 (a.uh + b.uh))) (w.heap.size + 1 + 1) #[.int .u64 0, .int .u64 0, .int .i64 0, .int .i64 0] 24 ∧ True) := hide (fun w2 h => by
        have mk := MV1.out _ h
        exact ⟨(Ext.store1 (Ext.store1 (xV1.trans h) (by omega) _) (by omega) _), ((mk.1.set 0 (.int .u64 (a.ul + b.ul))).set 1 (.int .u64 (a.uh + b.uh))), ((mk.2.1.off (b1) 0 (.int .u64 (a.ul + b.ul)) (by omega)).off (b1) 1 (.int .u64 (a.uh + b.uh)) (by omega)), ((mk.2.2.1.off (b1) 0 (.int .u64 (a.ul + b.ul)) (by omega)).off (b1) 1 (.int .u64 (a.uh + b.uh)) (by omega)), ((mk.2.2.2.1.off (b1) 0 (.int .u64 (a.ul + b.ul)) (by omega)).off (b1) 1 (.int .u64 (a.uh + b.uh)) (by omega)), trivial⟩)
      obtain ⟨V2, hV2⟩ : ∃ V2, V2 = ((w'.setCell ⟨b1, 0, none⟩ (.int .u64 (a.ul + b.ul))).setCell ⟨b1, 1, none⟩ (.int .u64 (a.uh + b.uh))) := ⟨_, rfl⟩
      rw [← hV2]
      have ms := MS2.out _ hx'
      rw [← hV2] at ms
      have xV2 : Ext w V2 := ms.1
      have ms2 := hide ms.2
      have MV2 := hide (fun w2 (h : Ext V2 w2) => (⟨ms2.out.1.ext h, ms2.out.2.1.ext h, ms2.out.2.2.1.ext h, ms2.out.2.2.2.1.ext h, trivial⟩ : Bk w2 (b1) #[.int .u64 (a.ul + b.ul), .int .u64 (a.uh + b.uh), .int .i64 ball.sl, .int .i64 ball.sh] 24 ∧ Bk w2 (w.heap.size) #[.int .u64 a.ul, .int .u64 a.uh, .int .i64 a.sl, .int .i64 a.sh] 24 ∧ Bk w2 (w.heap.size + 1) #[.int .u64 b.ul, .int .u64 b.uh, .int .i64 b.sl, .int .i64 b.sh] 24 ∧ Bk w2 (w.heap.size + 1 + 1) #[.int .u64 0, .int .u64 0, .int .i64 0, .int .i64 0] 24 ∧ True))
      clear hV2 ms MS2 hx'
      (try clear c0_0 c0_1 c0_2 c0_3 c1_0 c1_1 c1_2 c1_3 c2_0 c2_1 c2_2 c2_3 c3_0 c3_1 c3_2 c3_3 c0_f c1_f c2_f c3_f c0_l c1_l c2_l c3_l)
      have hx' : Ext V2 V2 := Ext.refl _
      (try clear c0_0 c0_1 c0_2 c0_3 c1_0 c1_1 c1_2 c1_3 c2_0 c2_1 c2_2 c2_3 c3_0 c3_1 c3_2 c3_3 c0_f c1_f c2_f c3_f c0_l c1_l c2_l c3_l); have mk := MV2.out _ hx'; have c0_0 : _ = some _ := mk.1.cell 0; have c0_1 : _ = some _ := mk.1.cell 1; have c0_2 : _ = some _ := mk.1.cell 2; have c0_3 : _ = some _ := mk.1.cell 3; have c0_f := mk.1.free; have c0_l := mk.1.lt; have c1_0 : _ = some _ := mk.2.1.cell 0; have c1_1 : _ = some _ := mk.2.1.cell 1; have c1_2 : _ = some _ := mk.2.1.cell 2; have c1_3 : _ = some _ := mk.2.1.cell 3; have c1_f := mk.2.1.free; have c1_l := mk.2.1.lt; have c2_0 : _ = some _ := mk.2.2.1.cell 0; have c2_1 : _ = some _ := mk.2.2.1.cell 1; have c2_2 : _ = some _ := mk.2.2.1.cell 2; have c2_3 : _ = some _ := mk.2.2.1.cell 3; have c2_f := mk.2.2.1.free; have c2_l := mk.2.2.1.lt; have c3_0 : _ = some _ := mk.2.2.2.1.cell 0; have c3_1 : _ = some _ := mk.2.2.2.1.cell 1; have c3_2 : _ = some _ := mk.2.2.2.1.cell 2; have c3_3 : _ = some _ := mk.2.2.2.1.cell 3; have c3_f := mk.2.2.2.1.free; have c3_l := mk.2.2.2.1.lt; clear mk
      go_wp2_with (first
        | (go_at_call 101; (with_reducible refine (b_plusl a.sl b.sl sx _ B1.out HSX.out D1.out V2 _ (by assumption)).mono ?_); rintro e w' ⟨rfl, hx'⟩; (try clear c0_0 c0_1 c0_2 c0_3 c1_0 c1_1 c1_2 c1_3 c2_0 c2_1 c2_2 c2_3 c3_0 c3_1 c3_2 c3_3 c0_f c1_f c2_f c3_f c0_l c1_l c2_l c3_l); have mk := MV2.out _ hx'; have c0_0 : _ = some _ := mk.1.cell 0; have c0_1 : _ = some _ := mk.1.cell 1; have c0_2 : _ = some _ := mk.1.cell 2; have c0_3 : _ = some _ := mk.1.cell 3; have c0_f := mk.1.free; have c0_l := mk.1.lt; have c1_0 : _ = some _ := mk.2.1.cell 0; have c1_1 : _ = some _ := mk.2.1.cell 1; have c1_2 : _ = some _ := mk.2.1.cell 2; have c1_3 : _ = some _ := mk.2.1.cell 3; have c1_f := mk.2.1.free; have c1_l := mk.2.1.lt; have c2_0 : _ = some _ := mk.2.2.1.cell 0; have c2_1 : _ = some _ := mk.2.2.1.cell 1; have c2_2 : _ = some _ := mk.2.2.1.cell 2; have c2_3 : _ = some _ := mk.2.2.1.cell 3; have c2_f := mk.2.2.1.free; have c2_l := mk.2.2.1.lt; have c3_0 : _ = some _ := mk.2.2.2.1.cell 0; have c3_1 : _ = some _ := mk.2.2.2.1.cell 1; have c3_2 : _ = some _ := mk.2.2.2.1.cell 2; have c3_3 : _ = some _ := mk.2.2.2.1.cell 3; have c3_f := mk.2.2.2.1.free; have c3_l := mk.2.2.2.1.lt; clear mk)
        | (go_at_call 101; (with_reducible refine (b_plusl a.sh b.sh sy _ B2.out HSY.out D2.out V2 _ (by assumption)).mono ?_); rintro e w' ⟨rfl, hx'⟩; (try clear c0_0 c0_1 c0_2 c0_3 c1_0 c1_1 c1_2 c1_3 c2_0 c2_1 c2_2 c2_3 c3_0 c3_1 c3_2 c3_3 c0_f c1_f c2_f c3_f c0_l c1_l c2_l c3_l); have mk := MV2.out _ hx'; have c0_0 : _ = some _ := mk.1.cell 0; have c0_1 : _ = some _ := mk.1.cell 1; have c0_2 : _ = some _ := mk.1.cell 2; have c0_3 : _ = some _ := mk.1.cell 3; have c0_f := mk.1.free; have c0_l := mk.1.lt; have c1_0 : _ = some _ := mk.2.1.cell 0; have c1_1 : _ = some _ := mk.2.1.cell 1; have c1_2 : _ = some _ := mk.2.1.cell 2; have c1_3 : _ = some _ := mk.2.1.cell 3; have c1_f := mk.2.1.free; have c1_l := mk.2.1.lt; have c2_0 : _ = some _ := mk.2.2.1.cell 0; have c2_1 : _ = some _ := mk.2.2.1.cell 1; have c2_2 : _ = some _ := mk.2.2.1.cell 2; have c2_3 : _ = some _ := mk.2.2.1.cell 3; have c2_f := mk.2.2.1.free; have c2_l := mk.2.2.1.lt; have c3_0 : _ = some _ := mk.2.2.2.1.cell 0; have c3_1 : _ = some _ := mk.2.2.2.1.cell 1; have c3_2 : _ = some _ := mk.2.2.2.1.cell 2; have c3_3 : _ = some _ := mk.2.2.2.1.cell 3; have c3_f := mk.2.2.2.1.free; have c3_l := mk.2.2.2.1.lt; clear mk)
        | fail)
      exact bodyPost_ret (by simp [results, Try.results71, go_sem, c3_0, c3_1, c3_2, c3_3, c3_l, Nat.ne_of_lt c3_l, Nat.ne_of_gt c3_l] <;> (first | exact ⟨rfl, rfl⟩ | exact ⟨rfl, rfl, rfl, rfl⟩ | rfl)) rfl ⟨by rw [E.out] <;> rfl, by (refine hx.trans ?_; with_reducible repeat (first | assumption | exact xV2.trans hx' | exact xV2.trans (by assumption) | apply Ext.alloc | apply Ext.drew | (refine Ext.store1 ?_ (by omega) _)))⟩
  · as_aux_lemma =>
      obtain ⟨W3, hW3⟩ : ∃ W3, W3 = (((w.alloc (.cells #[.int .u64 a.ul, .int .u64 a.uh, .int .i64 a.sl, .int .i64 a.sh] 24)).alloc (.cells #[.int .u64 b.ul, .int .u64 b.uh, .int .i64 b.sl, .int .i64 b.sh] 24)).alloc (.cells #[.int .u64 0, .int .u64 0, .int .i64 0, .int .i64 0] 24)) := ⟨_, rfl⟩
      have x3 : Ext w W3 := by rw [hW3]; exact ((((Ext.refl w).alloc _).alloc _).alloc _)
      have MK := hide (fun w' (h : Ext W3 w') => bk3 (hW3 ▸ h))
      have hx' : Ext W3 W3 := Ext.refl _
      obtain ⟨sx, hsx⟩ : ∃ sx, wrap64 (a.sl + b.sl) = sx := ⟨_, rfl⟩
      obtain ⟨sy, hsy⟩ : ∃ sy, wrap64 (a.sh + b.sh) = sy := ⟨_, rfl⟩
      have HSX := hide hsx
      have HSY := hide hsy
      have u1 : IntKind.u64.wrap (a.ul + b.ul) = a.ul + b.ul := by rw [w_u64]; omega
      have u2 : IntKind.u64.wrap (a.uh + b.uh) = a.uh + b.uh := by rw [w_u64]; omega
      have H64 := hide (b_add64 a.uh b.uh (a.uh + b.uh) 0 ha.2.1.1 hb.2.1.1 (by omega) (by omega))
      have E : Hid (bsum a b = (⟨a.ul + b.ul, a.uh + b.uh, -9223372036854775808, 9223372036854775807⟩ : Rg)) := hide (by unfold bsum; simp only [Rg.mk.injEq]; refine ⟨?_, ?_, ?_, ?_⟩ <;> (split <;> omega))
      have D1 : Hid (decide (-9223372036854775808 ≤ a.sl + b.sl ∧ a.sl + b.sl ≤ 9223372036854775807) = false) := hide (by simp; omega)
      have D2 : Hid (decide (-9223372036854775808 ≤ a.sh + b.sh ∧ a.sh + b.sh ≤ 9223372036854775807) = true) := hide (by simp; omega)
      have B1 := hide (show (-9223372036854775808 ≤ a.sl ∧ a.sl ≤ 9223372036854775807) ∧ (-9223372036854775808 ≤ b.sl ∧ b.sl ≤ 9223372036854775807) from ⟨ha.2.2.1, hb.2.2.1⟩)
      have B2 := hide (show (-9223372036854775808 ≤ a.sh ∧ a.sh ≤ 9223372036854775807) ∧ (-9223372036854775808 ≤ b.sh ∧ b.sh ≤ 9223372036854775807) from ⟨ha.2.2.2, hb.2.2.2⟩)
      clear hsx hsy c2 c3 MB
      go_enter Try.func71, Try.ntmps71
      go_wp2_with fail
      rw [← hW3]
      clear hW3
      (try clear c0_0 c0_1 c0_2 c0_3 c1_0 c1_1 c1_2 c1_3 c2_0 c2_1 c2_2 c2_3 c0_f c1_f c2_f c0_l c1_l c2_l); have mk := MK.out _ hx'; have c0_0 : _ = some _ := mk.1.cell 0; have c0_1 : _ = some _ := mk.1.cell 1; have c0_2 : _ = some _ := mk.1.cell 2; have c0_3 : _ = some _ := mk.1.cell 3; have c0_f := mk.1.free; have c0_l := mk.1.lt; have c1_0 : _ = some _ := mk.2.1.cell 0; have c1_1 : _ = some _ := mk.2.1.cell 1; have c1_2 : _ = some _ := mk.2.1.cell 2; have c1_3 : _ = some _ := mk.2.1.cell 3; have c1_f := mk.2.1.free; have c1_l := mk.2.1.lt; have c2_0 : _ = some _ := mk.2.2.1.cell 0; have c2_1 : _ = some _ := mk.2.2.1.cell 1; have c2_2 : _ = some _ := mk.2.2.1.cell 2; have c2_3 : _ = some _ := mk.2.2.1.cell 3; have c2_f := mk.2.2.1.free; have c2_l := mk.2.2.1.lt; clear mk
      go_wp2_with (first
        | (go_at_call 13; (with_reducible refine (b_all W3 _ (by assumption)).mono ?_); rintro e w' ⟨rfl, hx'⟩; (try clear c0_0 c0_1 c0_2 c0_3 c1_0 c1_1 c1_2 c1_3 c2_0 c2_1 c2_2 c2_3 c0_f c1_f c2_f c0_l c1_l c2_l); have mk := MK.out _ hx'; have c0_0 : _ = some _ := mk.1.cell 0; have c0_1 : _ = some _ := mk.1.cell 1; have c0_2 : _ = some _ := mk.1.cell 2; have c0_3 : _ = some _ := mk.1.cell 3; have c0_f := mk.1.free; have c0_l := mk.1.lt; have c1_0 : _ = some _ := mk.2.1.cell 0; have c1_1 : _ = some _ := mk.2.1.cell 1; have c1_2 : _ = some _ := mk.2.1.cell 2; have c1_3 : _ = some _ := mk.2.1.cell 3; have c1_f := mk.2.1.free; have c1_l := mk.2.1.lt; have c2_0 : _ = some _ := mk.2.2.1.cell 0; have c2_1 : _ = some _ := mk.2.2.1.cell 1; have c2_2 : _ = some _ := mk.2.2.1.cell 2; have c2_3 : _ = some _ := mk.2.2.1.cell 3; have c2_f := mk.2.2.1.free; have c2_l := mk.2.2.1.lt; clear mk)
        | fail)
      obtain ⟨V1, hV1⟩ : ∃ V1, V1 = (w'.alloc (.cells #[.int .u64 ball.ul, .int .u64 ball.uh, .int .i64 ball.sl, .int .i64 ball.sh] 24)) := ⟨_, rfl⟩
      rw [← hV1]
      obtain ⟨b1, hb1⟩ : ∃ b1, b1 = w'.heap.size := ⟨_, rfl⟩
      rw [← hb1]
      have xV1 : Ext w V1 := by rw [hV1]; exact ((x3.trans hx').alloc _)
      have xq : Ext W3 V1 := by rw [hV1]; exact (hx'.alloc _)
      have cn : ∀ w2, Ext V1 w2 → Bk w2 (b1) #[.int .u64 ball.ul, .int .u64 ball.uh, .int .i64 ball.sl, .int .i64 ball.sh] 24 := fun w2 h => by rw [hb1]; have hh := bk1 (hV1 ▸ h); exact hh.1
      have MV1 := hide (fun w2 (h : Ext V1 w2) => (⟨cn w2 h, MK.out w2 (xq.trans h)⟩ : Bk w2 (b1) #[.int .u64 ball.ul, .int .u64 ball.uh, .int .i64 ball.sl, .int .i64 ball.sh] 24 ∧ _))
      have lb1 : w.heap.size ≤ b1 := by rw [hb1]; exact (x3.trans hx').size
      have n1_0 : w.heap.size < b1 := by rw [hb1]; exact (MK.out _ hx').1.lt
      have n1_1 : w.heap.size + 1 < b1 := by rw [hb1]; exact (MK.out _ hx').2.1.lt
      have n1_2 : w.heap.size + 1 + 1 < b1 := by rw [hb1]; exact (MK.out _ hx').2.2.1.lt
      clear hV1 hb1 xq cn hx'
      (try clear c0_0 c0_1 c0_2 c0_3 c1_0 c1_1 c1_2 c1_3 c2_0 c2_1 c2_2 c2_3 c0_f c1_f c2_f c0_l c1_l c2_l)
      have hx' : Ext V1 V1 := Ext.refl _
      (try clear c0_0 c0_1 c0_2 c0_3 c1_0 c1_1 c1_2 c1_3 c2_0 c2_1 c2_2 c2_3 c3_0 c3_1 c3_2 c3_3 c0_f c1_f c2_f c3_f c0_l c1_l c2_l c3_l); have mk := MV1.out _ hx'; have c0_0 : _ = some _ := mk.1.cell 0; have c0_1 : _ = some _ := mk.1.cell 1; have c0_2 : _ = some _ := mk.1.cell 2; have c0_3 : _ = some _ := mk.1.cell 3; have c0_f := mk.1.free; have c0_l := mk.1.lt; have c1_0 : _ = some _ := mk.2.1.cell 0; have c1_1 : _ = some _ := mk.2.1.cell 1; have c1_2 : _ = some _ := mk.2.1.cell 2; have c1_3 : _ = some _ := mk.2.1.cell 3; have c1_f := mk.2.1.free; have c1_l := mk.2.1.lt; have c2_0 : _ = some _ := mk.2.2.1.cell 0; have c2_1 : _ = some _ := mk.2.2.1.cell 1; have c2_2 : _ = some _ := mk.2.2.1.cell 2; have c2_3 : _ = some _ := mk.2.2.1.cell 3; have c2_f := mk.2.2.1.free; have c2_l := mk.2.2.1.lt; have c3_0 : _ = some _ := mk.2.2.2.1.cell 0; have c3_1 : _ = some _ := mk.2.2.2.1.cell 1; have c3_2 : _ = some _ := mk.2.2.2.1.cell 2; have c3_3 : _ = some _ := mk.2.2.2.1.cell 3; have c3_f := mk.2.2.2.1.free; have c3_l := mk.2.2.2.1.lt; clear mk
      go_quiet (fail)
      go_wp2_with fail
      go_wp2_with (first
        | simp only [H64.out]
        | fail)
      obtain ⟨w', hw'⟩ : ∃ w', w' = V1.drewN nq := ⟨_, rfl⟩
      rw [← hw']
      have hx' : Ext V1 w' := by rw [hw']; exact (Ext.refl _).drewN nq
      clear hw'
      (try clear c0_0 c0_1 c0_2 c0_3 c1_0 c1_1 c1_2 c1_3 c2_0 c2_1 c2_2 c2_3 c3_0 c3_1 c3_2 c3_3 c0_f c1_f c2_f c3_f c0_l c1_l c2_l c3_l); have mk := MV1.out _ hx'; have c0_0 : _ = some _ := mk.1.cell 0; have c0_1 : _ = some _ := mk.1.cell 1; have c0_2 : _ = some _ := mk.1.cell 2; have c0_3 : _ = some _ := mk.1.cell 3; have c0_f := mk.1.free; have c0_l := mk.1.lt; have c1_0 : _ = some _ := mk.2.1.cell 0; have c1_1 : _ = some _ := mk.2.1.cell 1; have c1_2 : _ = some _ := mk.2.1.cell 2; have c1_3 : _ = some _ := mk.2.1.cell 3; have c1_f := mk.2.1.free; have c1_l := mk.2.1.lt; have c2_0 : _ = some _ := mk.2.2.1.cell 0; have c2_1 : _ = some _ := mk.2.2.1.cell 1; have c2_2 : _ = some _ := mk.2.2.1.cell 2; have c2_3 : _ = some _ := mk.2.2.1.cell 3; have c2_f := mk.2.2.1.free; have c2_l := mk.2.2.1.lt; have c3_0 : _ = some _ := mk.2.2.2.1.cell 0; have c3_1 : _ = some _ := mk.2.2.2.1.cell 1; have c3_2 : _ = some _ := mk.2.2.2.1.cell 2; have c3_3 : _ = some _ := mk.2.2.2.1.cell 3; have c3_f := mk.2.2.2.1.free; have c3_l := mk.2.2.2.1.lt; clear mk
      have MS2 : Hid (∀ w2, Ext V1 w2 → Ext w ((w2.setCell ⟨b1, 0, none⟩ (.int .u64 (a.ul + b.ul))).setCell ⟨b1, 1, none⟩ (.int .u64 (a.uh + b.uh))) ∧ Bk ((w2.setCell ⟨b1, 0, none⟩ (.int .u64 (a.ul + b.ul))).setCell ⟨b1, 1, none⟩ (.int .u64 (a.uh + b.uh))) (b1) #[.int .u64 (a.ul + b.ul), .int .u64 (a.uh + b.uh), .int .i64 ball.sl, .int .i64 ball.sh] 24 ∧ Bk ((w2.setCell ⟨b1, 0, none⟩ (.int .u64 (a.ul + b.ul))).setCell ⟨b1, 1, none⟩ (.int .u64 (a.uh + b.uh))) (w.heap.size) #[.int .u64 a.ul, .int .u64 a.uh, .int .i64 a.sl, .int .i64 a.sh] 24 ∧ Bk ((w2.setCell ⟨b1, 0, none⟩ (.int .u64 (a.ul + b.ul))).setCell ⟨b1, 1, none⟩ (.int .u64 (a.uh + b.uh))) (w.heap.size + 1) #[.int .u64 b.ul, .int .u64 b.uh, .int .i64 b.sl, .int .i64 b.sh] 24 ∧ Bk ((w2.setCell ⟨b1, 0, none⟩ (.int .u64 (a.ul + b.ul))).setCell ⟨b1, 1, none⟩ (.int .u64 (a.uh + b.uh))) (w.heap.size + 1 + 1) #[.int .u64 0, .int .u64 0, .int .i64 0, .int .i64 0] 24 ∧ True) := hide (fun w2 h => by
        have mk := MV1.out _ h
        exact ⟨(Ext.store1 (Ext.store1 (xV1.trans h) (by omega) _) (by omega) _), ((mk.1.set 0 (.int .u64 (a.ul + b.ul))).set 1 (.int .u64 (a.uh + b.uh))), ((mk.2.1.off (b1) 0 (.int .u64 (a.ul + b.ul)) (by omega)).off (b1) 1 (.int .u64 (a.uh + b.uh)) (by omega)), ((mk.2.2.1.off (b1) 0 (.int .u64 (a.ul + b.ul)) (by omega)).off (b1) 1 (.int .u64 (a.uh + b.uh)) (by omega)), ((mk.2.2.2.1.off (b1) 0 (.int .u64 (a.ul + b.ul)) (by omega)).off (b1) 1 (.int .u64 (a.uh + b.uh)) (by omega)), trivial⟩)
      obtain ⟨V2, hV2⟩ : ∃ V2, V2 = ((w'.setCell ⟨b1, 0, none⟩ (.int .u64 (a.ul + b.ul))).setCell ⟨b1, 1, none⟩ (.int .u64 (a.uh + b.uh))) := ⟨_, rfl⟩
      rw [← hV2]
      have ms := MS2.out _ hx'
      rw [← hV2] at ms
      have xV2 : Ext w V2 := ms.1
      have ms2 := hide ms.2
      have MV2 := hide (fun w2 (h : Ext V2 w2) => (⟨ms2.out.1.ext h, ms2.out.2.1.ext h, ms2.out.2.2.1.ext h, ms2.out.2.2.2.1.ext h, trivial⟩ : Bk w2 (b1) #[.int .u64 (a.ul + b.ul), .int .u64 (a.uh + b.uh), .int .i64 ball.sl, .int .i64 ball.sh] 24 ∧ Bk w2 (w.heap.size) #[.int .u64 a.ul, .int .u64 a.uh, .int .i64 a.sl, .int .i64 a.sh] 24 ∧ Bk w2 (w.heap.size + 1) #[.int .u64 b.ul, .int .u64 b.uh, .int .i64 b.sl, .int .i64 b.sh] 24 ∧ Bk w2 (w.heap.size + 1 + 1) #[.int .u64 0, .int .u64 0, .int .i64 0, .int .i64 0] 24 ∧ True))
      clear hV2 ms MS2 hx'
      (try clear c0_0 c0_1 c0_2 c0_3 c1_0 c1_1 c1_2 c1_3 c2_0 c2_1 c2_2 c2_3 c3_0 c3_1 c3_2 c3_3 c0_f c1_f c2_f c3_f c0_l c1_l c2_l c3_l)
      have hx' : Ext V2 V2 := Ext.refl _
      (try clear c0_0 c0_1 c0_2 c0_3 c1_0 c1_1 c1_2 c1_3 c2_0 c2_1 c2_2 c2_3 c3_0 c3_1 c3_2 c3_3 c0_f c1_f c2_f c3_f c0_l c1_l c2_l c3_l); have mk := MV2.out _ hx'; have c0_0 : _ = some _ := mk.1.cell 0; have c0_1 : _ = some _ := mk.1.cell 1; have c0_2 : _ = some _ := mk.1.cell 2; have c0_3 : _ = some _ := mk.1.cell 3; have c0_f := mk.1.free; have c0_l := mk.1.lt; have c1_0 : _ = some _ := mk.2.1.cell 0; have c1_1 : _ = some _ := mk.2.1.cell 1; have c1_2 : _ = some _ := mk.2.1.cell 2; have c1_3 : _ = some _ := mk.2.1.cell 3; have c1_f := mk.2.1.free; have c1_l := mk.2.1.lt; have c2_0 : _ = some _ := mk.2.2.1.cell 0; have c2_1 : _ = some _ := mk.2.2.1.cell 1; have c2_2 : _ = some _ := mk.2.2.1.cell 2; have c2_3 : _ = some _ := mk.2.2.1.cell 3; have c2_f := mk.2.2.1.free; have c2_l := mk.2.2.1.lt; have c3_0 : _ = some _ := mk.2.2.2.1.cell 0; have c3_1 : _ = some _ := mk.2.2.2.1.cell 1; have c3_2 : _ = some _ := mk.2.2.2.1.cell 2; have c3_3 : _ = some _ := mk.2.2.2.1.cell 3; have c3_f := mk.2.2.2.1.free; have c3_l := mk.2.2.2.1.lt; clear mk
      go_wp2_with (first
        | (go_at_call 101; (with_reducible refine (b_plusl a.sl b.sl sx _ B1.out HSX.out D1.out V2 _ (by assumption)).mono ?_); rintro e w' ⟨rfl, hx'⟩; (try clear c0_0 c0_1 c0_2 c0_3 c1_0 c1_1 c1_2 c1_3 c2_0 c2_1 c2_2 c2_3 c3_0 c3_1 c3_2 c3_3 c0_f c1_f c2_f c3_f c0_l c1_l c2_l c3_l); have mk := MV2.out _ hx'; have c0_0 : _ = some _ := mk.1.cell 0; have c0_1 : _ = some _ := mk.1.cell 1; have c0_2 : _ = some _ := mk.1.cell 2; have c0_3 : _ = some _ := mk.1.cell 3; have c0_f := mk.1.free; have c0_l := mk.1.lt; have c1_0 : _ = some _ := mk.2.1.cell 0; have c1_1 : _ = some _ := mk.2.1.cell 1; have c1_2 : _ = some _ := mk.2.1.cell 2; have c1_3 : _ = some _ := mk.2.1.cell 3; have c1_f := mk.2.1.free; have c1_l := mk.2.1.lt; have c2_0 : _ = some _ := mk.2.2.1.cell 0; have c2_1 : _ = some _ := mk.2.2.1.cell 1; have c2_2 : _ = some _ := mk.2.2.1.cell 2; have c2_3 : _ = some _ := mk.2.2.1.cell 3; have c2_f := mk.2.2.1.free; have c2_l := mk.2.2.1.lt; have c3_0 : _ = some _ := mk.2.2.2.1.cell 0; have c3_1 : _ = some _ := mk.2.2.2.1.cell 1; have c3_2 : _ = some _ := mk.2.2.2.1.cell 2; have c3_3 : _ = some _ := mk.2.2.2.1.cell 3; have c3_f := mk.2.2.2.1.free; have c3_l := mk.2.2.2.1.lt; clear mk)
        | (go_at_call 101; (with_reducible refine (b_plusl a.sh b.sh sy _ B2.out HSY.out D2.out V2 _ (by assumption)).mono ?_); rintro e w' ⟨rfl, hx'⟩; (try clear c0_0 c0_1 c0_2 c0_3 c1_0 c1_1 c1_2 c1_3 c2_0 c2_1 c2_2 c2_3 c3_0 c3_1 c3_2 c3_3 c0_f c1_f c2_f c3_f c0_l c1_l c2_l c3_l); have mk := MV2.out _ hx'; have c0_0 : _ = some _ := mk.1.cell 0; have c0_1 : _ = some _ := mk.1.cell 1; have c0_2 : _ = some _ := mk.1.cell 2; have c0_3 : _ = some _ := mk.1.cell 3; have c0_f := mk.1.free; have c0_l := mk.1.lt; have c1_0 : _ = some _ := mk.2.1.cell 0; have c1_1 : _ = some _ := mk.2.1.cell 1; have c1_2 : _ = some _ := mk.2.1.cell 2; have c1_3 : _ = some _ := mk.2.1.cell 3; have c1_f := mk.2.1.free; have c1_l := mk.2.1.lt; have c2_0 : _ = some _ := mk.2.2.1.cell 0; have c2_1 : _ = some _ := mk.2.2.1.cell 1; have c2_2 : _ = some _ := mk.2.2.1.cell 2; have c2_3 : _ = some _ := mk.2.2.1.cell 3; have c2_f := mk.2.2.1.free; have c2_l := mk.2.2.1.lt; have c3_0 : _ = some _ := mk.2.2.2.1.cell 0; have c3_1 : _ = some _ := mk.2.2.2.1.cell 1; have c3_2 : _ = some _ := mk.2.2.2.1.cell 2; have c3_3 : _ = some _ := mk.2.2.2.1.cell 3; have c3_f := mk.2.2.2.1.free; have c3_l := mk.2.2.2.1.lt; clear mk)
        | fail)
      exact bodyPost_ret (by simp [results, Try.results71, go_sem, c3_0, c3_1, c3_2, c3_3, c3_l, Nat.ne_of_lt c3_l, Nat.ne_of_gt c3_l] <;> (first | exact ⟨rfl, rfl⟩ | exact ⟨rfl, rfl, rfl, rfl⟩ | rfl)) rfl ⟨by rw [E.out] <;> rfl, by (refine hx.trans ?_; with_reducible repeat (first | assumption | exact xV2.trans hx' | exact xV2.trans (by assumption) | apply Ext.alloc | apply Ext.drew | (refine Ext.store1 ?_ (by omega) _)))⟩
  · as_aux_lemma =>
      obtain ⟨W3, hW3⟩ : ∃ W3, W3 = (((w.alloc (.cells #[.int .u64 a.ul, .int .u64 a.uh, .int .i64 a.sl, .int .i64 a.sh] 24)).alloc (.cells #[.int .u64 b.ul, .int .u64 b.uh, .int .i64 b.sl, .int .i64 b.sh] 24)).alloc (.cells #[.int .u64 0, .int .u64 0, .int .i64 0, .int .i64 0] 24)) := ⟨_, rfl⟩
      have x3 : Ext w W3 := by rw [hW3]; exact ((((Ext.refl w).alloc _).alloc _).alloc _)
      have MK := hide (fun w' (h : Ext W3 w') => bk3 (hW3 ▸ h))
      have hx' : Ext W3 W3 := Ext.refl _
      obtain ⟨sx, hsx⟩ : ∃ sx, wrap64 (a.sl + b.sl) = sx := ⟨_, rfl⟩
      obtain ⟨sy, hsy⟩ : ∃ sy, wrap64 (a.sh + b.sh) = sy := ⟨_, rfl⟩
      have HSX := hide hsx
      have HSY := hide hsy
      have u1 : IntKind.u64.wrap (a.ul + b.ul) = a.ul + b.ul := by rw [w_u64]; omega
      have u2 : IntKind.u64.wrap (a.uh + b.uh) = a.uh + b.uh := by rw [w_u64]; omega
      have H64 := hide (b_add64 a.uh b.uh (a.uh + b.uh) 0 ha.2.1.1 hb.2.1.1 (by omega) (by omega))
      have E : Hid (bsum a b = (⟨a.ul + b.ul, a.uh + b.uh, -9223372036854775808, 9223372036854775807⟩ : Rg)) := hide (by unfold bsum; simp only [Rg.mk.injEq]; refine ⟨?_, ?_, ?_, ?_⟩ <;> (split <;> omega))
      have D1 : Hid (decide (-9223372036854775808 ≤ a.sl + b.sl ∧ a.sl + b.sl ≤ 9223372036854775807) = false) := hide (by simp; omega)
      have D2 : Hid (decide (-9223372036854775808 ≤ a.sh + b.sh ∧ a.sh + b.sh ≤ 9223372036854775807) = false) := hide (by simp; omega)
      have B1 := hide (show (-9223372036854775808 ≤ a.sl ∧ a.sl ≤ 9223372036854775807) ∧ (-9223372036854775808 ≤ b.sl ∧ b.sl ≤ 9223372036854775807) from ⟨ha.2.2.1, hb.2.2.1⟩)
      have B2 := hide (show (-9223372036854775808 ≤ a.sh ∧ a.sh ≤ 9223372036854775807) ∧ (-9223372036854775808 ≤ b.sh ∧ b.sh ≤ 9223372036854775807) from ⟨ha.2.2.2, hb.2.2.2⟩)
      clear hsx hsy c2 c3 MB
      go_enter Try.func71, Try.ntmps71
      go_wp2_with fail
      rw [← hW3]
      clear hW3
      (try clear c0_0 c0_1 c0_2 c0_3 c1_0 c1_1 c1_2 c1_3 c2_0 c2_1 c2_2 c2_3 c0_f c1_f c2_f c0_l c1_l c2_l); have mk := MK.out _ hx'; have c0_0 : _ = some _ := mk.1.cell 0; have c0_1 : _ = some _ := mk.1.cell 1; have c0_2 : _ = some _ := mk.1.cell 2; have c0_3 : _ = some _ := mk.1.cell 3; have c0_f := mk.1.free; have c0_l := mk.1.lt; have c1_0 : _ = some _ := mk.2.1.cell 0; have c1_1 : _ = some _ := mk.2.1.cell 1; have c1_2 : _ = some _ := mk.2.1.cell 2; have c1_3 : _ = some _ := mk.2.1.cell 3; have c1_f := mk.2.1.free; have c1_l := mk.2.1.lt; have c2_0 : _ = some _ := mk.2.2.1.cell 0; have c2_1 : _ = some _ := mk.2.2.1.cell 1; have c2_2 : _ = some _ := mk.2.2.1.cell 2; have c2_3 : _ = some _ := mk.2.2.1.cell 3; have c2_f := mk.2.2.1.free; have c2_l := mk.2.2.1.lt; clear mk
      go_wp2_with (first
        | (go_at_call 13; (with_reducible refine (b_all W3 _ (by assumption)).mono ?_); rintro e w' ⟨rfl, hx'⟩; (try clear c0_0 c0_1 c0_2 c0_3 c1_0 c1_1 c1_2 c1_3 c2_0 c2_1 c2_2 c2_3 c0_f c1_f c2_f c0_l c1_l c2_l); have mk := MK.out _ hx'; have c0_0 : _ = some _ := mk.1.cell 0; have c0_1 : _ = some _ := mk.1.cell 1; have c0_2 : _ = some _ := mk.1.cell 2; have c0_3 : _ = some _ := mk.1.cell 3; have c0_f := mk.1.free; have c0_l := mk.1.lt; have c1_0 : _ = some _ := mk.2.1.cell 0; have c1_1 : _ = some _ := mk.2.1.cell 1; have c1_2 : _ = some _ := mk.2.1.cell 2; have c1_3 : _ = some _ := mk.2.1.cell 3; have c1_f := mk.2.1.free; have c1_l := mk.2.1.lt; have c2_0 : _ = some _ := mk.2.2.1.cell 0; have c2_1 : _ = some _ := mk.2.2.1.cell 1; have c2_2 : _ = some _ := mk.2.2.1.cell 2; have c2_3 : _ = some _ := mk.2.2.1.cell 3; have c2_f := mk.2.2.1.free; have c2_l := mk.2.2.1.lt; clear mk)
        | fail)
      obtain ⟨V1, hV1⟩ : ∃ V1, V1 = (w'.alloc (.cells #[.int .u64 ball.ul, .int .u64 ball.uh, .int .i64 ball.sl, .int .i64 ball.sh] 24)) := ⟨_, rfl⟩
      rw [← hV1]
      obtain ⟨b1, hb1⟩ : ∃ b1, b1 = w'.heap.size := ⟨_, rfl⟩
      rw [← hb1]
      have xV1 : Ext w V1 := by rw [hV1]; exact ((x3.trans hx').alloc _)
      have xq : Ext W3 V1 := by rw [hV1]; exact (hx'.alloc _)
      have cn : ∀ w2, Ext V1 w2 → Bk w2 (b1) #[.int .u64 ball.ul, .int .u64 ball.uh, .int .i64 ball.sl, .int .i64 ball.sh] 24 := fun w2 h => by rw [hb1]; have hh := bk1 (hV1 ▸ h); exact hh.1
      have MV1 := hide (fun w2 (h : Ext V1 w2) => (⟨cn w2 h, MK.out w2 (xq.trans h)⟩ : Bk w2 (b1) #[.int .u64 ball.ul, .int .u64 ball.uh, .int .i64 ball.sl, .int .i64 ball.sh] 24 ∧ _))
      have lb1 : w.heap.size ≤ b1 := by rw [hb1]; exact (x3.trans hx').size
      have n1_0 : w.heap.size < b1 := by rw [hb1]; exact (MK.out _ hx').1.lt
      have n1_1 : w.heap.size + 1 < b1 := by rw [hb1]; exact (MK.out _ hx').2.1.lt
      have n1_2 : w.heap.size + 1 + 1 < b1 := by rw [hb1]; exact (MK.out _ hx').2.2.1.lt
      clear hV1 hb1 xq cn hx'
      (try clear c0_0 c0_1 c0_2 c0_3 c1_0 c1_1 c1_2 c1_3 c2_0 c2_1 c2_2 c2_3 c0_f c1_f c2_f c0_l c1_l c2_l)
      have hx' : Ext V1 V1 := Ext.refl _
      (try clear c0_0 c0_1 c0_2 c0_3 c1_0 c1_1 c1_2 c1_3 c2_0 c2_1 c2_2 c2_3 c3_0 c3_1 c3_2 c3_3 c0_f c1_f c2_f c3_f c0_l c1_l c2_l c3_l); have mk := MV1.out _ hx'; have c0_0 : _ = some _ := mk.1.cell 0; have c0_1 : _ = some _ := mk.1.cell 1; have c0_2 : _ = some _ := mk.1.cell 2; have c0_3 : _ = some _ := mk.1.cell 3; have c0_f := mk.1.free; have c0_l := mk.1.lt; have c1_0 : _ = some _ := mk.2.1.cell 0; have c1_1 : _ = some _ := mk.2.1.cell 1; have c1_2 : _ = some _ := mk.2.1.cell 2; have c1_3 : _ = some _ := mk.2.1.cell 3; have c1_f := mk.2.1.free; have c1_l := mk.2.1.lt; have c2_0 : _ = some _ := mk.2.2.1.cell 0; have c2_1 : _ = some _ := mk.2.2.1.cell 1; have c2_2 : _ = some _ := mk.2.2.1.cell 2; have c2_3 : _ = some _ := mk.2.2.1.cell 3; have c2_f := mk.2.2.1.free; have c2_l := mk.2.2.1.lt; have c3_0 : _ = some _ := mk.2.2.2.1.cell 0; have c3_1 : _ = some _ := mk.2.2.2.1.cell 1; have c3_2 : _ = some _ := mk.2.2.2.1.cell 2; have c3_3 : _ = some _ := mk.2.2.2.1.cell 3; have c3_f := mk.2.2.2.1.free; have c3_l := mk.2.2.2.1.lt; clear mk
      go_quiet (fail)
      go_wp2_with fail
      go_wp2_with (first
        | simp only [H64.out]
        | fail)
      obtain ⟨w', hw'⟩ : ∃ w', w' = V1.drewN nq := ⟨_, rfl⟩
      rw [← hw']
      have hx' : Ext V1 w' := by rw [hw']; exact (Ext.refl _).drewN nq
      clear hw'
      (try clear c0_0 c0_1 c0_2 c0_3 c1_0 c1_1 c1_2 c1_3 c2_0 c2_1 c2_2 c2_3 c3_0 c3_1 c3_2 c3_3 c0_f c1_f c2_f c3_f c0_l c1_l c2_l c3_l); have mk := MV1.out _ hx'; have c0_0 : _ = some _ := mk.1.cell 0; have c0_1 : _ = some _ := mk.1.cell 1; have c0_2 : _ = some _ := mk.1.cell 2; have c0_3 : _ = some _ := mk.1.cell 3; have c0_f := mk.1.free; have c0_l := mk.1.lt; have c1_0 : _ = some _ := mk.2.1.cell 0; have c1_1 : _ = some _ := mk.2.1.cell 1; have c1_2 : _ = some _ := mk.2.1.cell 2; have c1_3 : _ = some _ := mk.2.1.cell 3; have c1_f := mk.2.1.free; have c1_l := mk.2.1.lt; have c2_0 : _ = some _ := mk.2.2.1.cell 0; have c2_1 : _ = some _ := mk.2.2.1.cell 1; have c2_2 : _ = some _ := mk.2.2.1.cell 2; have c2_3 : _ = some _ := mk.2.2.1.cell 3; have c2_f := mk.2.2.1.free; have c2_l := mk.2.2.1.lt; have c3_0 : _ = some _ := mk.2.2.2.1.cell 0; have c3_1 : _ = some _ := mk.2.2.2.1.cell 1; have c3_2 : _ = some _ := mk.2.2.2.1.cell 2; have c3_3 : _ = some _ := mk.2.2.2.1.cell 3; have c3_f := mk.2.2.2.1.free; have c3_l := mk.2.2.2.1.lt; clear mk
      have MS2 : Hid (∀ w2, Ext V1 w2 → Ext w ((w2.setCell ⟨b1, 0, none⟩ (.int .u64 (a.ul + b.ul))).setCell ⟨b1, 1, none⟩ (.int .u64 (a.uh + b.uh))) ∧ Bk ((w2.setCell ⟨b1, 0, none⟩ (.int .u64 (a.ul + b.ul))).setCell ⟨b1, 1, none⟩ (.int .u64 (a.uh + b.uh))) (b1) #[.int .u64 (a.ul + b.ul), .int .u64 (a.uh + b.uh), .int .i64 ball.sl, .int .i64 ball.sh] 24 ∧ Bk ((w2.setCell ⟨b1, 0, none⟩ (.int .u64 (a.ul + b.ul))).setCell ⟨b1, 1, none⟩ (.int .u64 (a.uh + b.uh))) (w.heap.size) #[.int .u64 a.ul, .int .u64 a.uh, .int .i64 a.sl, .int .i64 a.sh] 24 ∧ Bk ((w2.setCell ⟨b1, 0, none⟩ (.int .u64 (a.ul + b.ul))).setCell ⟨b1, 1, none⟩ (.int .u64 (a.uh + b.uh))) (w.heap.size + 1) #[.int .u64 b.ul, .int .u64 b.uh, .int .i64 b.sl, .int .i64 b.sh] 24 ∧ Bk ((w2.setCell ⟨b1, 0, none⟩ (.int .u64 (a.ul + b.ul))).setCell ⟨b1, 1, none⟩ (.int .u64 (a.uh + b.uh))) (w.heap.size + 1 + 1) #[.int .u64 0, .int .u64 0, .int .i64 0, .int .i64 0] 24 ∧ True) := hide (fun w2 h => by
        have mk := MV1.out _ h
        exact ⟨(Ext.store1 (Ext.store1 (xV1.trans h) (by omega) _) (by omega) _), ((mk.1.set 0 (.int .u64 (a.ul + b.ul))).set 1 (.int .u64 (a.uh + b.uh))), ((mk.2.1.off (b1) 0 (.int .u64 (a.ul + b.ul)) (by omega)).off (b1) 1 (.int .u64 (a.uh + b.uh)) (by omega)), ((mk.2.2.1.off (b1) 0 (.int .u64 (a.ul + b.ul)) (by omega)).off (b1) 1 (.int .u64 (a.uh + b.uh)) (by omega)), ((mk.2.2.2.1.off (b1) 0 (.int .u64 (a.ul + b.ul)) (by omega)).off (b1) 1 (.int .u64 (a.uh + b.uh)) (by omega)), trivial⟩)
      obtain ⟨V2, hV2⟩ : ∃ V2, V2 = ((w'.setCell ⟨b1, 0, none⟩ (.int .u64 (a.ul + b.ul))).setCell ⟨b1, 1, none⟩ (.int .u64 (a.uh + b.uh))) := ⟨_, rfl⟩
      rw [← hV2]
      have ms := MS2.out _ hx'
      rw [← hV2] at ms
      have xV2 : Ext w V2 := ms.1
      have ms2 := hide ms.2
      have MV2 := hide (fun w2 (h : Ext V2 w2) => (⟨ms2.out.1.ext h, ms2.out.2.1.ext h, ms2.out.2.2.1.ext h, ms2.out.2.2.2.1.ext h, trivial⟩ : Bk w2 (b1) #[.int .u64 (a.ul + b.ul), .int .u64 (a.uh + b.uh), .int .i64 ball.sl, .int .i64 ball.sh] 24 ∧ Bk w2 (w.heap.size) #[.int .u64 a.ul, .int .u64 a.uh, .int .i64 a.sl, .int .i64 a.sh] 24 ∧ Bk w2 (w.heap.size + 1) #[.int .u64 b.ul, .int .u64 b.uh, .int .i64 b.sl, .int .i64 b.sh] 24 ∧ Bk w2 (w.heap.size + 1 + 1) #[.int .u64 0, .int .u64 0, .int .i64 0, .int .i64 0] 24 ∧ True))
      clear hV2 ms MS2 hx'
      (try clear c0_0 c0_1 c0_2 c0_3 c1_0 c1_1 c1_2 c1_3 c2_0 c2_1 c2_2 c2_3 c3_0 c3_1 c3_2 c3_3 c0_f c1_f c2_f c3_f c0_l c1_l c2_l c3_l)
      have hx' : Ext V2 V2 := Ext.refl _
      (try clear c0_0 c0_1 c0_2 c0_3 c1_0 c1_1 c1_2 c1_3 c2_0 c2_1 c2_2 c2_3 c3_0 c3_1 c3_2 c3_3 c0_f c1_f c2_f c3_f c0_l c1_l c2_l c3_l); have mk := MV2.out _ hx'; have c0_0 : _ = some _ := mk.1.cell 0; have c0_1 : _ = some _ := mk.1.cell 1; have c0_2 : _ = some _ := mk.1.cell 2; have c0_3 : _ = some _ := mk.1.cell 3; have c0_f := mk.1.free; have c0_l := mk.1.lt; have c1_0 : _ = some _ := mk.2.1.cell 0; have c1_1 : _ = some _ := mk.2.1.cell 1; have c1_2 : _ = some _ := mk.2.1.cell 2; have c1_3 : _ = some _ := mk.2.1.cell 3; have c1_f := mk.2.1.free; have c1_l := mk.2.1.lt; have c2_0 : _ = some _ := mk.2.2.1.cell 0; have c2_1 : _ = some _ := mk.2.2.1.cell 1; have c2_2 : _ = some _ := mk.2.2.1.cell 2; have c2_3 : _ = some _ := mk.2.2.1.cell 3; have c2_f := mk.2.2.1.free; have c2_l := mk.2.2.1.lt; have c3_0 : _ = some _ := mk.2.2.2.1.cell 0; have c3_1 : _ = some _ := mk.2.2.2.1.cell 1; have c3_2 : _ = some _ := mk.2.2.2.1.cell 2; have c3_3 : _ = some _ := mk.2.2.2.1.cell 3; have c3_f := mk.2.2.2.1.free; have c3_l := mk.2.2.2.1.lt; clear mk
      go_wp2_with (first
        | (go_at_call 101; (with_reducible refine (b_plusl a.sl b.sl sx _ B1.out HSX.out D1.out V2 _ (by assumption)).mono ?_); rintro e w' ⟨rfl, hx'⟩; (try clear c0_0 c0_1 c0_2 c0_3 c1_0 c1_1 c1_2 c1_3 c2_0 c2_1 c2_2 c2_3 c3_0 c3_1 c3_2 c3_3 c0_f c1_f c2_f c3_f c0_l c1_l c2_l c3_l); have mk := MV2.out _ hx'; have c0_0 : _ = some _ := mk.1.cell 0; have c0_1 : _ = some _ := mk.1.cell 1; have c0_2 : _ = some _ := mk.1.cell 2; have c0_3 : _ = some _ := mk.1.cell 3; have c0_f := mk.1.free; have c0_l := mk.1.lt; have c1_0 : _ = some _ := mk.2.1.cell 0; have c1_1 : _ = some _ := mk.2.1.cell 1; have c1_2 : _ = some _ := mk.2.1.cell 2; have c1_3 : _ = some _ := mk.2.1.cell 3; have c1_f := mk.2.1.free; have c1_l := mk.2.1.lt; have c2_0 : _ = some _ := mk.2.2.1.cell 0; have c2_1 : _ = some _ := mk.2.2.1.cell 1; have c2_2 : _ = some _ := mk.2.2.1.cell 2; have c2_3 : _ = some _ := mk.2.2.1.cell 3; have c2_f := mk.2.2.1.free; have c2_l := mk.2.2.1.lt; have c3_0 : _ = some _ := mk.2.2.2.1.cell 0; have c3_1 : _ = some _ := mk.2.2.2.1.cell 1; have c3_2 : _ = some _ := mk.2.2.2.1.cell 2; have c3_3 : _ = some _ := mk.2.2.2.1.cell 3; have c3_f := mk.2.2.2.1.free; have c3_l := mk.2.2.2.1.lt; clear mk)
        | (go_at_call 101; (with_reducible refine (b_plusl a.sh b.sh sy _ B2.out HSY.out D2.out V2 _ (by assumption)).mono ?_); rintro e w' ⟨rfl, hx'⟩; (try clear c0_0 c0_1 c0_2 c0_3 c1_0 c1_1 c1_2 c1_3 c2_0 c2_1 c2_2 c2_3 c3_0 c3_1 c3_2 c3_3 c0_f c1_f c2_f c3_f c0_l c1_l c2_l c3_l); have mk := MV2.out _ hx'; have c0_0 : _ = some _ := mk.1.cell 0; have c0_1 : _ = some _ := mk.1.cell 1; have c0_2 : _ = some _ := mk.1.cell 2; have c0_3 : _ = some _ := mk.1.cell 3; have c0_f := mk.1.free; have c0_l := mk.1.lt; have c1_0 : _ = some _ := mk.2.1.cell 0; have c1_1 : _ = some _ := mk.2.1.cell 1; have c1_2 : _ = some _ := mk.2.1.cell 2; have c1_3 : _ = some _ := mk.2.1.cell 3; have c1_f := mk.2.1.free; have c1_l := mk.2.1.lt; have c2_0 : _ = some _ := mk.2.2.1.cell 0; have c2_1 : _ = some _ := mk.2.2.1.cell 1; have c2_2 : _ = some _ := mk.2.2.1.cell 2; have c2_3 : _ = some _ := mk.2.2.1.cell 3; have c2_f := mk.2.2.1.free; have c2_l := mk.2.2.1.lt; have c3_0 : _ = some _ := mk.2.2.2.1.cell 0; have c3_1 : _ = some _ := mk.2.2.2.1.cell 1; have c3_2 : _ = some _ := mk.2.2.2.1.cell 2; have c3_3 : _ = some _ := mk.2.2.2.1.cell 3; have c3_f := mk.2.2.2.1.free; have c3_l := mk.2.2.2.1.lt; clear mk)
        | fail)
      exact bodyPost_ret (by simp [results, Try.results71, go_sem, c3_0, c3_1, c3_2, c3_3, c3_l, Nat.ne_of_lt c3_l, Nat.ne_of_gt c3_l] <;> (first | exact ⟨rfl, rfl⟩ | exact ⟨rfl, rfl, rfl, rfl⟩ | rfl)) rfl ⟨by rw [E.out] <;> rfl, by (refine hx.trans ?_; with_reducible repeat (first | assumption | exact xV2.trans hx' | exact xV2.trans (by assumption) | apply Ext.alloc | apply Ext.drew | (refine Ext.store1 ?_ (by omega) _)))⟩
  · as_aux_lemma =>
      obtain ⟨W3, hW3⟩ : ∃ W3, W3 = (((w.alloc (.cells #[.int .u64 a.ul, .int .u64 a.uh, .int .i64 a.sl, .int .i64 a.sh] 24)).alloc (.cells #[.int .u64 b.ul, .int .u64 b.uh, .int .i64 b.sl, .int .i64 b.sh] 24)).alloc (.cells #[.int .u64 0, .int .u64 0, .int .i64 0, .int .i64 0] 24)) := ⟨_, rfl⟩
      have x3 : Ext w W3 := by rw [hW3]; exact ((((Ext.refl w).alloc _).alloc _).alloc _)
      have MK := hide (fun w' (h : Ext W3 w') => bk3 (hW3 ▸ h))
      have hx' : Ext W3 W3 := Ext.refl _
      obtain ⟨sx, hsx⟩ : ∃ sx, wrap64 (a.sl + b.sl) = sx := ⟨_, rfl⟩
      obtain ⟨sy, hsy⟩ : ∃ sy, wrap64 (a.sh + b.sh) = sy := ⟨_, rfl⟩
      have HSX := hide hsx
      have HSY := hide hsy
      have H64 := hide (b_add64 a.uh b.uh (a.uh + b.uh - 18446744073709551616) 1 ha.2.1.1 hb.2.1.1 (by omega) (by omega))
      have e1 : sx = a.sl + b.sl := by rw [← hsx, Go.IntWalk.wrap64_in _ (by omega)]
      have e2 : sy = a.sh + b.sh := by rw [← hsy, Go.IntWalk.wrap64_in _ (by omega)]
      have E : Hid (bsum a b = (⟨0, 18446744073709551615, (a.sl + b.sl), (a.sh + b.sh)⟩ : Rg)) := hide (by unfold bsum; simp only [Rg.mk.injEq]; refine ⟨?_, ?_, ?_, ?_⟩ <;> (split <;> omega))
      have D1 : Hid (decide (-9223372036854775808 ≤ a.sl + b.sl ∧ a.sl + b.sl ≤ 9223372036854775807) = true) := hide (by simp; omega)
      have D2 : Hid (decide (-9223372036854775808 ≤ a.sh + b.sh ∧ a.sh + b.sh ≤ 9223372036854775807) = true) := hide (by simp; omega)
      have B1 := hide (show (-9223372036854775808 ≤ a.sl ∧ a.sl ≤ 9223372036854775807) ∧ (-9223372036854775808 ≤ b.sl ∧ b.sl ≤ 9223372036854775807) from ⟨ha.2.2.1, hb.2.2.1⟩)
      have B2 := hide (show (-9223372036854775808 ≤ a.sh ∧ a.sh ≤ 9223372036854775807) ∧ (-9223372036854775808 ≤ b.sh ∧ b.sh ≤ 9223372036854775807) from ⟨ha.2.2.2, hb.2.2.2⟩)
      have E1 := hide e1
      have E2 := hide e2
      clear e1 e2
      clear hsx hsy c2 c3 MB
      go_enter Try.func71, Try.ntmps71
      go_wp2_with fail
      rw [← hW3]
      clear hW3
      (try clear c0_0 c0_1 c0_2 c0_3 c1_0 c1_1 c1_2 c1_3 c2_0 c2_1 c2_2 c2_3 c0_f c1_f c2_f c0_l c1_l c2_l); have mk := MK.out _ hx'; have c0_0 : _ = some _ := mk.1.cell 0; have c0_1 : _ = some _ := mk.1.cell 1; have c0_2 : _ = some _ := mk.1.cell 2; have c0_3 : _ = some _ := mk.1.cell 3; have c0_f := mk.1.free; have c0_l := mk.1.lt; have c1_0 : _ = some _ := mk.2.1.cell 0; have c1_1 : _ = some _ := mk.2.1.cell 1; have c1_2 : _ = some _ := mk.2.1.cell 2; have c1_3 : _ = some _ := mk.2.1.cell 3; have c1_f := mk.2.1.free; have c1_l := mk.2.1.lt; have c2_0 : _ = some _ := mk.2.2.1.cell 0; have c2_1 : _ = some _ := mk.2.2.1.cell 1; have c2_2 : _ = some _ := mk.2.2.1.cell 2; have c2_3 : _ = some _ := mk.2.2.1.cell 3; have c2_f := mk.2.2.1.free; have c2_l := mk.2.2.1.lt; clear mk
      go_wp2_with (first
        | (go_at_call 13; (with_reducible refine (b_all W3 _ (by assumption)).mono ?_); rintro e w' ⟨rfl, hx'⟩; (try clear c0_0 c0_1 c0_2 c0_3 c1_0 c1_1 c1_2 c1_3 c2_0 c2_1 c2_2 c2_3 c0_f c1_f c2_f c0_l c1_l c2_l); have mk := MK.out _ hx'; have c0_0 : _ = some _ := mk.1.cell 0; have c0_1 : _ = some _ := mk.1.cell 1; have c0_2 : _ = some _ := mk.1.cell 2; have c0_3 : _ = some _ := mk.1.cell 3; have c0_f := mk.1.free; have c0_l := mk.1.lt; have c1_0 : _ = some _ := mk.2.1.cell 0; have c1_1 : _ = some _ := mk.2.1.cell 1; have c1_2 : _ = some _ := mk.2.1.cell 2; have c1_3 : _ = some _ := mk.2.1.cell 3; have c1_f := mk.2.1.free; have c1_l := mk.2.1.lt; have c2_0 : _ = some _ := mk.2.2.1.cell 0; have c2_1 : _ = some _ := mk.2.2.1.cell 1; have c2_2 : _ = some _ := mk.2.2.1.cell 2; have c2_3 : _ = some _ := mk.2.2.1.cell 3; have c2_f := mk.2.2.1.free; have c2_l := mk.2.2.1.lt; clear mk)
        | fail)
      obtain ⟨V1, hV1⟩ : ∃ V1, V1 = (w'.alloc (.cells #[.int .u64 ball.ul, .int .u64 ball.uh, .int .i64 ball.sl, .int .i64 ball.sh] 24)) := ⟨_, rfl⟩
      rw [← hV1]
      obtain ⟨b1, hb1⟩ : ∃ b1, b1 = w'.heap.size := ⟨_, rfl⟩
      rw [← hb1]
      have xV1 : Ext w V1 := by rw [hV1]; exact ((x3.trans hx').alloc _)
      have xq : Ext W3 V1 := by rw [hV1]; exact (hx'.alloc _)
      have cn : ∀ w2, Ext V1 w2 → Bk w2 (b1) #[.int .u64 ball.ul, .int .u64 ball.uh, .int .i64 ball.sl, .int .i64 ball.sh] 24 := fun w2 h => by rw [hb1]; have hh := bk1 (hV1 ▸ h); exact hh.1
      have MV1 := hide (fun w2 (h : Ext V1 w2) => (⟨cn w2 h, MK.out w2 (xq.trans h)⟩ : Bk w2 (b1) #[.int .u64 ball.ul, .int .u64 ball.uh, .int .i64 ball.sl, .int .i64 ball.sh] 24 ∧ _))
      have lb1 : w.heap.size ≤ b1 := by rw [hb1]; exact (x3.trans hx').size
      have n1_0 : w.heap.size < b1 := by rw [hb1]; exact (MK.out _ hx').1.lt
      have n1_1 : w.heap.size + 1 < b1 := by rw [hb1]; exact (MK.out _ hx').2.1.lt
      have n1_2 : w.heap.size + 1 + 1 < b1 := by rw [hb1]; exact (MK.out _ hx').2.2.1.lt
      clear hV1 hb1 xq cn hx'
      (try clear c0_0 c0_1 c0_2 c0_3 c1_0 c1_1 c1_2 c1_3 c2_0 c2_1 c2_2 c2_3 c0_f c1_f c2_f c0_l c1_l c2_l)
      have hx' : Ext V1 V1 := Ext.refl _
      (try clear c0_0 c0_1 c0_2 c0_3 c1_0 c1_1 c1_2 c1_3 c2_0 c2_1 c2_2 c2_3 c3_0 c3_1 c3_2 c3_3 c0_f c1_f c2_f c3_f c0_l c1_l c2_l c3_l); have mk := MV1.out _ hx'; have c0_0 : _ = some _ := mk.1.cell 0; have c0_1 : _ = some _ := mk.1.cell 1; have c0_2 : _ = some _ := mk.1.cell 2; have c0_3 : _ = some _ := mk.1.cell 3; have c0_f := mk.1.free; have c0_l := mk.1.lt; have c1_0 : _ = some _ := mk.2.1.cell 0; have c1_1 : _ = some _ := mk.2.1.cell 1; have c1_2 : _ = some _ := mk.2.1.cell 2; have c1_3 : _ = some _ := mk.2.1.cell 3; have c1_f := mk.2.1.free; have c1_l := mk.2.1.lt; have c2_0 : _ = some _ := mk.2.2.1.cell 0; have c2_1 : _ = some _ := mk.2.2.1.cell 1; have c2_2 : _ = some _ := mk.2.2.1.cell 2; have c2_3 : _ = some _ := mk.2.2.1.cell 3; have c2_f := mk.2.2.1.free; have c2_l := mk.2.2.1.lt; have c3_0 : _ = some _ := mk.2.2.2.1.cell 0; have c3_1 : _ = some _ := mk.2.2.2.1.cell 1; have c3_2 : _ = some _ := mk.2.2.2.1.cell 2; have c3_3 : _ = some _ := mk.2.2.2.1.cell 3; have c3_f := mk.2.2.2.1.free; have c3_l := mk.2.2.2.1.lt; clear mk
      go_quiet (fail)
      go_wp2_with fail
      go_wp2_with (first
        | simp only [H64.out]
        | fail)
      obtain ⟨w', hw'⟩ : ∃ w', w' = V1.drewN nq := ⟨_, rfl⟩
      rw [← hw']
      have hx' : Ext V1 w' := by rw [hw']; exact (Ext.refl _).drewN nq
      clear hw'
      (try clear c0_0 c0_1 c0_2 c0_3 c1_0 c1_1 c1_2 c1_3 c2_0 c2_1 c2_2 c2_3 c3_0 c3_1 c3_2 c3_3 c0_f c1_f c2_f c3_f c0_l c1_l c2_l c3_l); have mk := MV1.out _ hx'; have c0_0 : _ = some _ := mk.1.cell 0; have c0_1 : _ = some _ := mk.1.cell 1; have c0_2 : _ = some _ := mk.1.cell 2; have c0_3 : _ = some _ := mk.1.cell 3; have c0_f := mk.1.free; have c0_l := mk.1.lt; have c1_0 : _ = some _ := mk.2.1.cell 0; have c1_1 : _ = some _ := mk.2.1.cell 1; have c1_2 : _ = some _ := mk.2.1.cell 2; have c1_3 : _ = some _ := mk.2.1.cell 3; have c1_f := mk.2.1.free; have c1_l := mk.2.1.lt; have c2_0 : _ = some _ := mk.2.2.1.cell 0; have c2_1 : _ = some _ := mk.2.2.1.cell 1; have c2_2 : _ = some _ := mk.2.2.1.cell 2; have c2_3 : _ = some _ := mk.2.2.1.cell 3; have c2_f := mk.2.2.1.free; have c2_l := mk.2.2.1.lt; have c3_0 : _ = some _ := mk.2.2.2.1.cell 0; have c3_1 : _ = some _ := mk.2.2.2.1.cell 1; have c3_2 : _ = some _ := mk.2.2.2.1.cell 2; have c3_3 : _ = some _ := mk.2.2.2.1.cell 3; have c3_f := mk.2.2.2.1.free; have c3_l := mk.2.2.2.1.lt; clear mk
      go_wp2_with (first
        | (go_at_call 101; (with_reducible refine (b_plusl a.sl b.sl sx _ B1.out HSX.out D1.out V1 _ (by assumption)).mono ?_); rintro e w' ⟨rfl, hx'⟩; (try clear c0_0 c0_1 c0_2 c0_3 c1_0 c1_1 c1_2 c1_3 c2_0 c2_1 c2_2 c2_3 c3_0 c3_1 c3_2 c3_3 c0_f c1_f c2_f c3_f c0_l c1_l c2_l c3_l); have mk := MV1.out _ hx'; have c0_0 : _ = some _ := mk.1.cell 0; have c0_1 : _ = some _ := mk.1.cell 1; have c0_2 : _ = some _ := mk.1.cell 2; have c0_3 : _ = some _ := mk.1.cell 3; have c0_f := mk.1.free; have c0_l := mk.1.lt; have c1_0 : _ = some _ := mk.2.1.cell 0; have c1_1 : _ = some _ := mk.2.1.cell 1; have c1_2 : _ = some _ := mk.2.1.cell 2; have c1_3 : _ = some _ := mk.2.1.cell 3; have c1_f := mk.2.1.free; have c1_l := mk.2.1.lt; have c2_0 : _ = some _ := mk.2.2.1.cell 0; have c2_1 : _ = some _ := mk.2.2.1.cell 1; have c2_2 : _ = some _ := mk.2.2.1.cell 2; have c2_3 : _ = some _ := mk.2.2.1.cell 3; have c2_f := mk.2.2.1.free; have c2_l := mk.2.2.1.lt; have c3_0 : _ = some _ := mk.2.2.2.1.cell 0; have c3_1 : _ = some _ := mk.2.2.2.1.cell 1; have c3_2 : _ = some _ := mk.2.2.2.1.cell 2; have c3_3 : _ = some _ := mk.2.2.2.1.cell 3; have c3_f := mk.2.2.2.1.free; have c3_l := mk.2.2.2.1.lt; clear mk)
        | (go_at_call 101; (with_reducible refine (b_plusl a.sh b.sh sy _ B2.out HSY.out D2.out V1 _ (by assumption)).mono ?_); rintro e w' ⟨rfl, hx'⟩; (try clear c0_0 c0_1 c0_2 c0_3 c1_0 c1_1 c1_2 c1_3 c2_0 c2_1 c2_2 c2_3 c3_0 c3_1 c3_2 c3_3 c0_f c1_f c2_f c3_f c0_l c1_l c2_l c3_l); have mk := MV1.out _ hx'; have c0_0 : _ = some _ := mk.1.cell 0; have c0_1 : _ = some _ := mk.1.cell 1; have c0_2 : _ = some _ := mk.1.cell 2; have c0_3 : _ = some _ := mk.1.cell 3; have c0_f := mk.1.free; have c0_l := mk.1.lt; have c1_0 : _ = some _ := mk.2.1.cell 0; have c1_1 : _ = some _ := mk.2.1.cell 1; have c1_2 : _ = some _ := mk.2.1.cell 2; have c1_3 : _ = some _ := mk.2.1.cell 3; have c1_f := mk.2.1.free; have c1_l := mk.2.1.lt; have c2_0 : _ = some _ := mk.2.2.1.cell 0; have c2_1 : _ = some _ := mk.2.2.1.cell 1; have c2_2 : _ = some _ := mk.2.2.1.cell 2; have c2_3 : _ = some _ := mk.2.2.1.cell 3; have c2_f := mk.2.2.1.free; have c2_l := mk.2.2.1.lt; have c3_0 : _ = some _ := mk.2.2.2.1.cell 0; have c3_1 : _ = some _ := mk.2.2.2.1.cell 1; have c3_2 : _ = some _ := mk.2.2.2.1.cell 2; have c3_3 : _ = some _ := mk.2.2.2.1.cell 3; have c3_f := mk.2.2.2.1.free; have c3_l := mk.2.2.2.1.lt; clear mk)
        | fail)
      have MS2 : Hid (∀ w2, Ext V1 w2 → Ext w ((w2.setCell ⟨b1, 2, none⟩ (.int .i64 sx)).setCell ⟨b1, 3, none⟩ (.int .i64 sy)) ∧ Bk ((w2.setCell ⟨b1, 2, none⟩ (.int .i64 sx)).setCell ⟨b1, 3, none⟩ (.int .i64 sy)) (b1) #[.int .u64 ball.ul, .int .u64 ball.uh, .int .i64 sx, .int .i64 sy] 24 ∧ Bk ((w2.setCell ⟨b1, 2, none⟩ (.int .i64 sx)).setCell ⟨b1, 3, none⟩ (.int .i64 sy)) (w.heap.size) #[.int .u64 a.ul, .int .u64 a.uh, .int .i64 a.sl, .int .i64 a.sh] 24 ∧ Bk ((w2.setCell ⟨b1, 2, none⟩ (.int .i64 sx)).setCell ⟨b1, 3, none⟩ (.int .i64 sy)) (w.heap.size + 1) #[.int .u64 b.ul, .int .u64 b.uh, .int .i64 b.sl, .int .i64 b.sh] 24 ∧ Bk ((w2.setCell ⟨b1, 2, none⟩ (.int .i64 sx)).setCell ⟨b1, 3, none⟩ (.int .i64 sy)) (w.heap.size + 1 + 1) #[.int .u64 0, .int .u64 0, .int .i64 0, .int .i64 0] 24 ∧ True) := hide (fun w2 h => by
        have mk := MV1.out _ h
        exact ⟨(Ext.store1 (Ext.store1 (xV1.trans h) (by omega) _) (by omega) _), ((mk.1.set 2 (.int .i64 sx)).set 3 (.int .i64 sy)), ((mk.2.1.off (b1) 2 (.int .i64 sx) (by omega)).off (b1) 3 (.int .i64 sy) (by omega)), ((mk.2.2.1.off (b1) 2 (.int .i64 sx) (by omega)).off (b1) 3 (.int .i64 sy) (by omega)), ((mk.2.2.2.1.off (b1) 2 (.int .i64 sx) (by omega)).off (b1) 3 (.int .i64 sy) (by omega)), trivial⟩)
      obtain ⟨V2, hV2⟩ : ∃ V2, V2 = ((w'.setCell ⟨b1, 2, none⟩ (.int .i64 sx)).setCell ⟨b1, 3, none⟩ (.int .i64 sy)) := ⟨_, rfl⟩
      rw [← hV2]
      have ms := MS2.out _ hx'
      rw [← hV2] at ms
      have xV2 : Ext w V2 := ms.1
      have ms2 := hide ms.2
      have MV2 := hide (fun w2 (h : Ext V2 w2) => (⟨ms2.out.1.ext h, ms2.out.2.1.ext h, ms2.out.2.2.1.ext h, ms2.out.2.2.2.1.ext h, trivial⟩ : Bk w2 (b1) #[.int .u64 ball.ul, .int .u64 ball.uh, .int .i64 sx, .int .i64 sy] 24 ∧ Bk w2 (w.heap.size) #[.int .u64 a.ul, .int .u64 a.uh, .int .i64 a.sl, .int .i64 a.sh] 24 ∧ Bk w2 (w.heap.size + 1) #[.int .u64 b.ul, .int .u64 b.uh, .int .i64 b.sl, .int .i64 b.sh] 24 ∧ Bk w2 (w.heap.size + 1 + 1) #[.int .u64 0, .int .u64 0, .int .i64 0, .int .i64 0] 24 ∧ True))
      clear hV2 ms MS2 hx'
      (try clear c0_0 c0_1 c0_2 c0_3 c1_0 c1_1 c1_2 c1_3 c2_0 c2_1 c2_2 c2_3 c3_0 c3_1 c3_2 c3_3 c0_f c1_f c2_f c3_f c0_l c1_l c2_l c3_l)
      have hx' : Ext V2 V2 := Ext.refl _
      (try clear c0_0 c0_1 c0_2 c0_3 c1_0 c1_1 c1_2 c1_3 c2_0 c2_1 c2_2 c2_3 c3_0 c3_1 c3_2 c3_3 c0_f c1_f c2_f c3_f c0_l c1_l c2_l c3_l); have mk := MV2.out _ hx'; have c0_0 : _ = some _ := mk.1.cell 0; have c0_1 : _ = some _ := mk.1.cell 1; have c0_2 : _ = some _ := mk.1.cell 2; have c0_3 : _ = some _ := mk.1.cell 3; have c0_f := mk.1.free; have c0_l := mk.1.lt; have c1_0 : _ = some _ := mk.2.1.cell 0; have c1_1 : _ = some _ := mk.2.1.cell 1; have c1_2 : _ = some _ := mk.2.1.cell 2; have c1_3 : _ = some _ := mk.2.1.cell 3; have c1_f := mk.2.1.free; have c1_l := mk.2.1.lt; have c2_0 : _ = some _ := mk.2.2.1.cell 0; have c2_1 : _ = some _ := mk.2.2.1.cell 1; have c2_2 : _ = some _ := mk.2.2.1.cell 2; have c2_3 : _ = some _ := mk.2.2.1.cell 3; have c2_f := mk.2.2.1.free; have c2_l := mk.2.2.1.lt; have c3_0 : _ = some _ := mk.2.2.2.1.cell 0; have c3_1 : _ = some _ := mk.2.2.2.1.cell 1; have c3_2 : _ = some _ := mk.2.2.2.1.cell 2; have c3_3 : _ = some _ := mk.2.2.2.1.cell 3; have c3_f := mk.2.2.2.1.free; have c3_l := mk.2.2.2.1.lt; clear mk
      go_wp2_with fail
      exact bodyPost_ret (by simp [results, Try.results71, go_sem, c3_0, c3_1, c3_2, c3_3, c3_l, Nat.ne_of_lt c3_l, Nat.ne_of_gt c3_l] <;> (first | exact ⟨rfl, rfl⟩ | exact ⟨rfl, rfl, rfl, rfl⟩ | rfl)) rfl ⟨by rw [E.out, ← E1.out, ← E2.out] <;> rfl, by (refine hx.trans ?_; with_reducible repeat (first | assumption | exact xV2.trans hx' | exact xV2.trans (by assumption) | apply Ext.alloc | apply Ext.drew | (refine Ext.store1 ?_ (by omega) _)))⟩
  · as_aux_lemma =>
      obtain ⟨W3, hW3⟩ : ∃ W3, W3 = (((w.alloc (.cells #[.int .u64 a.ul, .int .u64 a.uh, .int .i64 a.sl, .int .i64 a.sh] 24)).alloc (.cells #[.int .u64 b.ul, .int .u64 b.uh, .int .i64 b.sl, .int .i64 b.sh] 24)).alloc (.cells #[.int .u64 0, .int .u64 0, .int .i64 0, .int .i64 0] 24)) := ⟨_, rfl⟩
      have x3 : Ext w W3 := by rw [hW3]; exact ((((Ext.refl w).alloc _).alloc _).alloc _)
      have MK := hide (fun w' (h : Ext W3 w') => bk3 (hW3 ▸ h))
      have hx' : Ext W3 W3 := Ext.refl _
      obtain ⟨sx, hsx⟩ : ∃ sx, wrap64 (a.sl + b.sl) = sx := ⟨_, rfl⟩
      obtain ⟨sy, hsy⟩ : ∃ sy, wrap64 (a.sh + b.sh) = sy := ⟨_, rfl⟩
      have HSX := hide hsx
      have HSY := hide hsy
      have H64 := hide (b_add64 a.uh b.uh (a.uh + b.uh - 18446744073709551616) 1 ha.2.1.1 hb.2.1.1 (by omega) (by omega))
      have E : Hid (bsum a b = (⟨0, 18446744073709551615, -9223372036854775808, 9223372036854775807⟩ : Rg)) := hide (by unfold bsum; simp only [Rg.mk.injEq]; refine ⟨?_, ?_, ?_, ?_⟩ <;> (split <;> omega))
      have D1 : Hid (decide (-9223372036854775808 ≤ a.sl + b.sl ∧ a.sl + b.sl ≤ 9223372036854775807) = true) := hide (by simp; omega)
      have D2 : Hid (decide (-9223372036854775808 ≤ a.sh + b.sh ∧ a.sh + b.sh ≤ 9223372036854775807) = false) := hide (by simp; omega)
      have B1 := hide (show (-9223372036854775808 ≤ a.sl ∧ a.sl ≤ 9223372036854775807) ∧ (-9223372036854775808 ≤ b.sl ∧ b.sl ≤ 9223372036854775807) from ⟨ha.2.2.1, hb.2.2.1⟩)
      have B2 := hide (show (-9223372036854775808 ≤ a.sh ∧ a.sh ≤ 9223372036854775807) ∧ (-9223372036854775808 ≤ b.sh ∧ b.sh ≤ 9223372036854775807) from ⟨ha.2.2.2, hb.2.2.2⟩)
      clear hsx hsy c2 c3 MB
      go_enter Try.func71, Try.ntmps71
      go_wp2_with fail
      rw [← hW3]
      clear hW3
      (try clear c0_0 c0_1 c0_2 c0_3 c1_0 c1_1 c1_2 c1_3 c2_0 c2_1 c2_2 c2_3 c0_f c1_f c2_f c0_l c1_l c2_l); have mk := MK.out _ hx'; have c0_0 : _ = some _ := mk.1.cell 0; have c0_1 : _ = some _ := mk.1.cell 1; have c0_2 : _ = some _ := mk.1.cell 2; have c0_3 : _ = some _ := mk.1.cell 3; have c0_f := mk.1.free; have c0_l := mk.1.lt; have c1_0 : _ = some _ := mk.2.1.cell 0; have c1_1 : _ = some _ := mk.2.1.cell 1; have c1_2 : _ = some _ := mk.2.1.cell 2; have c1_3 : _ = some _ := mk.2.1.cell 3; have c1_f := mk.2.1.free; have c1_l := mk.2.1.lt; have c2_0 : _ = some _ := mk.2.2.1.cell 0; have c2_1 : _ = some _ := mk.2.2.1.cell 1; have c2_2 : _ = some _ := mk.2.2.1.cell 2; have c2_3 : _ = some _ := mk.2.2.1.cell 3; have c2_f := mk.2.2.1.free; have c2_l := mk.2.2.1.lt; clear mk
      go_wp2_with (first
        | (go_at_call 13; (with_reducible refine (b_all W3 _ (by assumption)).mono ?_); rintro e w' ⟨rfl, hx'⟩; (try clear c0_0 c0_1 c0_2 c0_3 c1_0 c1_1 c1_2 c1_3 c2_0 c2_1 c2_2 c2_3 c0_f c1_f c2_f c0_l c1_l c2_l); have mk := MK.out _ hx'; have c0_0 : _ = some _ := mk.1.cell 0; have c0_1 : _ = some _ := mk.1.cell 1; have c0_2 : _ = some _ := mk.1.cell 2; have c0_3 : _ = some _ := mk.1.cell 3; have c0_f := mk.1.free; have c0_l := mk.1.lt; have c1_0 : _ = some _ := mk.2.1.cell 0; have c1_1 : _ = some _ := mk.2.1.cell 1; have c1_2 : _ = some _ := mk.2.1.cell 2; have c1_3 : _ = some _ := mk.2.1.cell 3; have c1_f := mk.2.1.free; have c1_l := mk.2.1.lt; have c2_0 : _ = some _ := mk.2.2.1.cell 0; have c2_1 : _ = some _ := mk.2.2.1.cell 1; have c2_2 : _ = some _ := mk.2.2.1.cell 2; have c2_3 : _ = some _ := mk.2.2.1.cell 3; have c2_f := mk.2.2.1.free; have c2_l := mk.2.2.1.lt; clear mk)
        | fail)
      obtain ⟨V1, hV1⟩ : ∃ V1, V1 = (w'.alloc (.cells #[.int .u64 ball.ul, .int .u64 ball.uh, .int .i64 ball.sl, .int .i64 ball.sh] 24)) := ⟨_, rfl⟩
      rw [← hV1]
      obtain ⟨b1, hb1⟩ : ∃ b1, b1 = w'.heap.size := ⟨_, rfl⟩
      rw [← hb1]
      have xV1 : Ext w V1 := by rw [hV1]; exact ((x3.trans hx').alloc _)
      have xq : Ext W3 V1 := by rw [hV1]; exact (hx'.alloc _)
      have cn : ∀ w2, Ext V1 w2 → Bk w2 (b1) #[.int .u64 ball.ul, .int .u64 ball.uh, .int .i64 ball.sl, .int .i64 ball.sh] 24 := fun w2 h => by rw [hb1]; have hh := bk1 (hV1 ▸ h); exact hh.1
      have MV1 := hide (fun w2 (h : Ext V1 w2) => (⟨cn w2 h, MK.out w2 (xq.trans h)⟩ : Bk w2 (b1) #[.int .u64 ball.ul, .int .u64 ball.uh, .int .i64 ball.sl, .int .i64 ball.sh] 24 ∧ _))
      have lb1 : w.heap.size ≤ b1 := by rw [hb1]; exact (x3.trans hx').size
      have n1_0 : w.heap.size < b1 := by rw [hb1]; exact (MK.out _ hx').1.lt
      have n1_1 : w.heap.size + 1 < b1 := by rw [hb1]; exact (MK.out _ hx').2.1.lt
      have n1_2 : w.heap.size + 1 + 1 < b1 := by rw [hb1]; exact (MK.out _ hx').2.2.1.lt
      clear hV1 hb1 xq cn hx'
      (try clear c0_0 c0_1 c0_2 c0_3 c1_0 c1_1 c1_2 c1_3 c2_0 c2_1 c2_2 c2_3 c0_f c1_f c2_f c0_l c1_l c2_l)
      have hx' : Ext V1 V1 := Ext.refl _
      (try clear c0_0 c0_1 c0_2 c0_3 c1_0 c1_1 c1_2 c1_3 c2_0 c2_1 c2_2 c2_3 c3_0 c3_1 c3_2 c3_3 c0_f c1_f c2_f c3_f c0_l c1_l c2_l c3_l); have mk := MV1.out _ hx'; have c0_0 : _ = some _ := mk.1.cell 0; have c0_1 : _ = some _ := mk.1.cell 1; have c0_2 : _ = some _ := mk.1.cell 2; have c0_3 : _ = some _ := mk.1.cell 3; have c0_f := mk.1.free; have c0_l := mk.1.lt; have c1_0 : _ = some _ := mk.2.1.cell 0; have c1_1 : _ = some _ := mk.2.1.cell 1; have c1_2 : _ = some _ := mk.2.1.cell 2; have c1_3 : _ = some _ := mk.2.1.cell 3; have c1_f := mk.2.1.free; have c1_l := mk.2.1.lt; have c2_0 : _ = some _ := mk.2.2.1.cell 0; have c2_1 : _ = some _ := mk.2.2.1.cell 1; have c2_2 : _ = some _ := mk.2.2.1.cell 2; have c2_3 : _ = some _ := mk.2.2.1.cell 3; have c2_f := mk.2.2.1.free; have c2_l := mk.2.2.1.lt; have c3_0 : _ = some _ := mk.2.2.2.1.cell 0; have c3_1 : _ = some _ := mk.2.2.2.1.cell 1; have c3_2 : _ = some _ := mk.2.2.2.1.cell 2; have c3_3 : _ = some _ := mk.2.2.2.1.cell 3; have c3_f := mk.2.2.2.1.free; have c3_l := mk.2.2.2.1.lt; clear mk
      go_quiet (fail)
      go_wp2_with fail
      go_wp2_with (first
        | simp only [H64.out]
        | fail)
      obtain ⟨w', hw'⟩ : ∃ w', w' = V1.drewN nq := ⟨_, rfl⟩
      rw [← hw']
      have hx' : Ext V1 w' := by rw [hw']; exact (Ext.refl _).drewN nq
      clear hw'
      (try clear c0_0 c0_1 c0_2 c0_3 c1_0 c1_1 c1_2 c1_3 c2_0 c2_1 c2_2 c2_3 c3_0 c3_1 c3_2 c3_3 c0_f c1_f c2_f c3_f c0_l c1_l c2_l c3_l); have mk := MV1.out _ hx'; have c0_0 : _ = some _ := mk.1.cell 0; have c0_1 : _ = some _ := mk.1.cell 1; have c0_2 : _ = some _ := mk.1.cell 2; have c0_3 : _ = some _ := mk.1.cell 3; have c0_f := mk.1.free; have c0_l := mk.1.lt; have c1_0 : _ = some _ := mk.2.1.cell 0; have c1_1 : _ = some _ := mk.2.1.cell 1; have c1_2 : _ = some _ := mk.2.1.cell 2; have c1_3 : _ = some _ := mk.2.1.cell 3; have c1_f := mk.2.1.free; have c1_l := mk.2.1.lt; have c2_0 : _ = some _ := mk.2.2.1.cell 0; have c2_1 : _ = some _ := mk.2.2.1.cell 1; have c2_2 : _ = some _ := mk.2.2.1.cell 2; have c2_3 : _ = some _ := mk.2.2.1.cell 3; have c2_f := mk.2.2.1.free; have c2_l := mk.2.2.1.lt; have c3_0 : _ = some _ := mk.2.2.2.1.cell 0; have c3_1 : _ = some _ := mk.2.2.2.1.cell 1; have c3_2 : _ = some _ := mk.2.2.2.1.cell 2; have c3_3 : _ = some _ := mk.2.2.2.1.cell 3; have c3_f := mk.2.2.2.1.free; have c3_l := mk.2.2.2.1.lt; clear mk
      go_wp2_with (first
        | (go_at_call 101; (with_reducible refine (b_plusl a.sl b.sl sx _ B1.out HSX.out D1.out V1 _ (by assumption)).mono ?_); rintro e w' ⟨rfl, hx'⟩; (try clear c0_0 c0_1 c0_2 c0_3 c1_0 c1_1 c1_2 c1_3 c2_0 c2_1 c2_2 c2_3 c3_0 c3_1 c3_2 c3_3 c0_f c1_f c2_f c3_f c0_l c1_l c2_l c3_l); have mk := MV1.out _ hx'; have c0_0 : _ = some _ := mk.1.cell 0; have c0_1 : _ = some _ := mk.1.cell 1; have c0_2 : _ = some _ := mk.1.cell 2; have c0_3 : _ = some _ := mk.1.cell 3; have c0_f := mk.1.free; have c0_l := mk.1.lt; have c1_0 : _ = some _ := mk.2.1.cell 0; have c1_1 : _ = some _ := mk.2.1.cell 1; have c1_2 : _ = some _ := mk.2.1.cell 2; have c1_3 : _ = some _ := mk.2.1.cell 3; have c1_f := mk.2.1.free; have c1_l := mk.2.1.lt; have c2_0 : _ = some _ := mk.2.2.1.cell 0; have c2_1 : _ = some _ := mk.2.2.1.cell 1; have c2_2 : _ = some _ := mk.2.2.1.cell 2; have c2_3 : _ = some _ := mk.2.2.1.cell 3; have c2_f := mk.2.2.1.free; have c2_l := mk.2.2.1.lt; have c3_0 : _ = some _ := mk.2.2.2.1.cell 0; have c3_1 : _ = some _ := mk.2.2.2.1.cell 1; have c3_2 : _ = some _ := mk.2.2.2.1.cell 2; have c3_3 : _ = some _ := mk.2.2.2.1.cell 3; have c3_f := mk.2.2.2.1.free; have c3_l := mk.2.2.2.1.lt; clear mk)
        | (go_at_call 101; (with_reducible refine (b_plusl a.sh b.sh sy _ B2.out HSY.out D2.out V1 _ (by assumption)).mono ?_); rintro e w' ⟨rfl, hx'⟩; (try clear c0_0 c0_1 c0_2 c0_3 c1_0 c1_1 c1_2 c1_3 c2_0 c2_1 c2_2 c2_3 c3_0 c3_1 c3_2 c3_3 c0_f c1_f c2_f c3_f c0_l c1_l c2_l c3_l); have mk := MV1.out _ hx'; have c0_0 : _ = some _ := mk.1.cell 0; have c0_1 : _ = some _ := mk.1.cell 1; have c0_2 : _ = some _ := mk.1.cell 2; have c0_3 : _ = some _ := mk.1.cell 3; have c0_f := mk.1.free; have c0_l := mk.1.lt; have c1_0 : _ = some _ := mk.2.1.cell 0; have c1_1 : _ = some _ := mk.2.1.cell 1; have c1_2 : _ = some _ := mk.2.1.cell 2; have c1_3 : _ = some _ := mk.2.1.cell 3; have c1_f := mk.2.1.free; have c1_l := mk.2.1.lt; have c2_0 : _ = some _ := mk.2.2.1.cell 0; have c2_1 : _ = some _ := mk.2.2.1.cell 1; have c2_2 : _ = some _ := mk.2.2.1.cell 2; have c2_3 : _ = some _ := mk.2.2.1.cell 3; have c2_f := mk.2.2.1.free; have c2_l := mk.2.2.1.lt; have c3_0 : _ = some _ := mk.2.2.2.1.cell 0; have c3_1 : _ = some _ := mk.2.2.2.1.cell 1; have c3_2 : _ = some _ := mk.2.2.2.1.cell 2; have c3_3 : _ = some _ := mk.2.2.2.1.cell 3; have c3_f := mk.2.2.2.1.free; have c3_l := mk.2.2.2.1.lt; clear mk)
        | fail)
      exact bodyPost_ret (by simp [results, Try.results71, go_sem, c3_0, c3_1, c3_2, c3_3, c3_l, Nat.ne_of_lt c3_l, Nat.ne_of_gt c3_l] <;> (first | exact ⟨rfl, rfl⟩ | exact ⟨rfl, rfl, rfl, rfl⟩ | rfl)) rfl ⟨by rw [E.out] <;> rfl, by (refine hx.trans ?_; with_reducible repeat (first | assumption | exact xV1.trans hx' | exact xV1.trans (by assumption) | apply Ext.alloc | apply Ext.drew | (refine Ext.store1 ?_ (by omega) _)))⟩
  · as_aux_lemma =>
      obtain ⟨W3, hW3⟩ : ∃ W3, W3 = (((w.alloc (.cells #[.int .u64 a.ul, .int .u64 a.uh, .int .i64 a.sl, .int .i64 a.sh] 24)).alloc (.cells #[.int .u64 b.ul, .int .u64 b.uh, .int .i64 b.sl, .int .i64 b.sh] 24)).alloc (.cells #[.int .u64 0, .int .u64 0, .int .i64 0, .int .i64 0] 24)) := ⟨_, rfl⟩
      have x3 : Ext w W3 := by rw [hW3]; exact ((((Ext.refl w).alloc _).alloc _).alloc _)
      have MK := hide (fun w' (h : Ext W3 w') => bk3 (hW3 ▸ h))
      have hx' : Ext W3 W3 := Ext.refl _
      obtain ⟨sx, hsx⟩ : ∃ sx, wrap64 (a.sl + b.sl) = sx := ⟨_, rfl⟩
      obtain ⟨sy, hsy⟩ : ∃ sy, wrap64 (a.sh + b.sh) = sy := ⟨_, rfl⟩
      have HSX := hide hsx
      have HSY := hide hsy
      have H64 := hide (b_add64 a.uh b.uh (a.uh + b.uh - 18446744073709551616) 1 ha.2.1.1 hb.2.1.1 (by omega) (by omega))
      have E : Hid (bsum a b = (⟨0, 18446744073709551615, -9223372036854775808, 9223372036854775807⟩ : Rg)) := hide (by unfold bsum; simp only [Rg.mk.injEq]; refine ⟨?_, ?_, ?_, ?_⟩ <;> (split <;> omega))
      have D1 : Hid (decide (-9223372036854775808 ≤ a.sl + b.sl ∧ a.sl + b.sl ≤ 9223372036854775807) = false) := hide (by simp; omega)
      have D2 : Hid (decide (-9223372036854775808 ≤ a.sh + b.sh ∧ a.sh + b.sh ≤ 9223372036854775807) = true) := hide (by simp; omega)
      have B1 := hide (show (-9223372036854775808 ≤ a.sl ∧ a.sl ≤ 9223372036854775807) ∧ (-9223372036854775808 ≤ b.sl ∧ b.sl ≤ 9223372036854775807) from ⟨ha.2.2.1, hb.2.2.1⟩)
      have B2 := hide (show (-9223372036854775808 ≤ a.sh ∧ a.sh ≤ 9223372036854775807) ∧ (-9223372036854775808 ≤ b.sh ∧ b.sh ≤ 9223372036854775807) from ⟨ha.2.2.2, hb.2.2.2⟩)
      clear hsx hsy c2 c3 MB
      go_enter Try.func71, Try.ntmps71
      go_wp2_with fail
      rw [← hW3]
      clear hW3
      (try clear c0_0 c0_1 c0_2 c0_3 c1_0 c1_1 c1_2 c1_3 c2_0 c2_1 c2_2 c2_3 c0_f c1_f c2_f c0_l c1_l c2_l); have mk := MK.out _ hx'; have c0_0 : _ = some _ := mk.1.cell 0; have c0_1 : _ = some _ := mk.1.cell 1; have c0_2 : _ = some _ := mk.1.cell 2; have c0_3 : _ = some _ := mk.1.cell 3; have c0_f := mk.1.free; have c0_l := mk.1.lt; have c1_0 : _ = some _ := mk.2.1.cell 0; have c1_1 : _ = some _ := mk.2.1.cell 1; have c1_2 : _ = some _ := mk.2.1.cell 2; have c1_3 : _ = some _ := mk.2.1.cell 3; have c1_f := mk.2.1.free; have c1_l := mk.2.1.lt; have c2_0 : _ = some _ := mk.2.2.1.cell 0; have c2_1 : _ = some _ := mk.2.2.1.cell 1; have c2_2 : _ = some _ := mk.2.2.1.cell 2; have c2_3 : _ = some _ := mk.2.2.1.cell 3; have c2_f := mk.2.2.1.free; have c2_l := mk.2.2.1.lt; clear mk
      go_wp2_with (first
        | (go_at_call 13; (with_reducible refine (b_all W3 _ (by assumption)).mono ?_); rintro e w' ⟨rfl, hx'⟩; (try clear c0_0 c0_1 c0_2 c0_3 c1_0 c1_1 c1_2 c1_3 c2_0 c2_1 c2_2 c2_3 c0_f c1_f c2_f c0_l c1_l c2_l); have mk := MK.out _ hx'; have c0_0 : _ = some _ := mk.1.cell 0; have c0_1 : _ = some _ := mk.1.cell 1; have c0_2 : _ = some _ := mk.1.cell 2; have c0_3 : _ = some _ := mk.1.cell 3; have c0_f := mk.1.free; have c0_l := mk.1.lt; have c1_0 : _ = some _ := mk.2.1.cell 0; have c1_1 : _ = some _ := mk.2.1.cell 1; have c1_2 : _ = some _ := mk.2.1.cell 2; have c1_3 : _ = some _ := mk.2.1.cell 3; have c1_f := mk.2.1.free; have c1_l := mk.2.1.lt; have c2_0 : _ = some _ := mk.2.2.1.cell 0; have c2_1 : _ = some _ := mk.2.2.1.cell 1; have c2_2 : _ = some _ := mk.2.2.1.cell 2; have c2_3 : _ = some _ := mk.2.2.1.cell 3; have c2_f := mk.2.2.1.free; have c2_l := mk.2.2.1.lt; clear mk)
        | fail)
      obtain ⟨V1, hV1⟩ : ∃ V1, V1 = (w'.alloc (.cells #[.int .u64 ball.ul, .int .u64 ball.uh, .int .i64 ball.sl, .int .i64 ball.sh] 24)) := ⟨_, rfl⟩
      rw [← hV1]
      obtain ⟨b1, hb1⟩ : ∃ b1, b1 = w'.heap.size := ⟨_, rfl⟩
      rw [← hb1]
      have xV1 : Ext w V1 := by rw [hV1]; exact ((x3.trans hx').alloc _)
      have xq : Ext W3 V1 := by rw [hV1]; exact (hx'.alloc _)
      have cn : ∀ w2, Ext V1 w2 → Bk w2 (b1) #[.int .u64 ball.ul, .int .u64 ball.uh, .int .i64 ball.sl, .int .i64 ball.sh] 24 := fun w2 h => by rw [hb1]; have hh := bk1 (hV1 ▸ h); exact hh.1
      have MV1 := hide (fun w2 (h : Ext V1 w2) => (⟨cn w2 h, MK.out w2 (xq.trans h)⟩ : Bk w2 (b1) #[.int .u64 ball.ul, .int .u64 ball.uh, .int .i64 ball.sl, .int .i64 ball.sh] 24 ∧ _))
      have lb1 : w.heap.size ≤ b1 := by rw [hb1]; exact (x3.trans hx').size
      have n1_0 : w.heap.size < b1 := by rw [hb1]; exact (MK.out _ hx').1.lt
      have n1_1 : w.heap.size + 1 < b1 := by rw [hb1]; exact (MK.out _ hx').2.1.lt
      have n1_2 : w.heap.size + 1 + 1 < b1 := by rw [hb1]; exact (MK.out _ hx').2.2.1.lt
      clear hV1 hb1 xq cn hx'
      (try clear c0_0 c0_1 c0_2 c0_3 c1_0 c1_1 c1_2 c1_3 c2_0 c2_1 c2_2 c2_3 c0_f c1_f c2_f c0_l c1_l c2_l)
      have hx' : Ext V1 V1 := Ext.refl _
      (try clear c0_0 c0_1 c0_2 c0_3 c1_0 c1_1 c1_2 c1_3 c2_0 c2_1 c2_2 c2_3 c3_0 c3_1 c3_2 c3_3 c0_f c1_f c2_f c3_f c0_l c1_l c2_l c3_l); have mk := MV1.out _ hx'; have c0_0 : _ = some _ := mk.1.cell 0; have c0_1 : _ = some _ := mk.1.cell 1; have c0_2 : _ = some _ := mk.1.cell 2; have c0_3 : _ = some _ := mk.1.cell 3; have c0_f := mk.1.free; have c0_l := mk.1.lt; have c1_0 : _ = some _ := mk.2.1.cell 0; have c1_1 : _ = some _ := mk.2.1.cell 1; have c1_2 : _ = some _ := mk.2.1.cell 2; have c1_3 : _ = some _ := mk.2.1.cell 3; have c1_f := mk.2.1.free; have c1_l := mk.2.1.lt; have c2_0 : _ = some _ := mk.2.2.1.cell 0; have c2_1 : _ = some _ := mk.2.2.1.cell 1; have c2_2 : _ = some _ := mk.2.2.1.cell 2; have c2_3 : _ = some _ := mk.2.2.1.cell 3; have c2_f := mk.2.2.1.free; have c2_l := mk.2.2.1.lt; have c3_0 : _ = some _ := mk.2.2.2.1.cell 0; have c3_1 : _ = some _ := mk.2.2.2.1.cell 1; have c3_2 : _ = some _ := mk.2.2.2.1.cell 2; have c3_3 : _ = some _ := mk.2.2.2.1.cell 3; have c3_f := mk.2.2.2.1.free; have c3_l := mk.2.2.2.1.lt; clear mk
      go_quiet (fail)
      go_wp2_with fail
      go_wp2_with (first
        | simp only [H64.out]
        | fail)
      obtain ⟨w', hw'⟩ : ∃ w', w' = V1.drewN nq := ⟨_, rfl⟩
      rw [← hw']
      have hx' : Ext V1 w' := by rw [hw']; exact (Ext.refl _).drewN nq
      clear hw'
      (try clear c0_0 c0_1 c0_2 c0_3 c1_0 c1_1 c1_2 c1_3 c2_0 c2_1 c2_2 c2_3 c3_0 c3_1 c3_2 c3_3 c0_f c1_f c2_f c3_f c0_l c1_l c2_l c3_l); have mk := MV1.out _ hx'; have c0_0 : _ = some _ := mk.1.cell 0; have c0_1 : _ = some _ := mk.1.cell 1; have c0_2 : _ = some _ := mk.1.cell 2; have c0_3 : _ = some _ := mk.1.cell 3; have c0_f := mk.1.free; have c0_l := mk.1.lt; have c1_0 : _ = some _ := mk.2.1.cell 0; have c1_1 : _ = some _ := mk.2.1.cell 1; have c1_2 : _ = some _ := mk.2.1.cell 2; have c1_3 : _ = some _ := mk.2.1.cell 3; have c1_f := mk.2.1.free; have c1_l := mk.2.1.lt; have c2_0 : _ = some _ := mk.2.2.1.cell 0; have c2_1 : _ = some _ := mk.2.2.1.cell 1; have c2_2 : _ = some _ := mk.2.2.1.cell 2; have c2_3 : _ = some _ := mk.2.2.1.cell 3; have c2_f := mk.2.2.1.free; have c2_l := mk.2.2.1.lt; have c3_0 : _ = some _ := mk.2.2.2.1.cell 0; have c3_1 : _ = some _ := mk.2.2.2.1.cell 1; have c3_2 : _ = some _ := mk.2.2.2.1.cell 2; have c3_3 : _ = some _ := mk.2.2.2.1.cell 3; have c3_f := mk.2.2.2.1.free; have c3_l := mk.2.2.2.1.lt; clear mk
      go_wp2_with (first
        | (go_at_call 101; (with_reducible refine (b_plusl a.sl b.sl sx _ B1.out HSX.out D1.out V1 _ (by assumption)).mono ?_); rintro e w' ⟨rfl, hx'⟩; (try clear c0_0 c0_1 c0_2 c0_3 c1_0 c1_1 c1_2 c1_3 c2_0 c2_1 c2_2 c2_3 c3_0 c3_1 c3_2 c3_3 c0_f c1_f c2_f c3_f c0_l c1_l c2_l c3_l); have mk := MV1.out _ hx'; have c0_0 : _ = some _ := mk.1.cell 0; have c0_1 : _ = some _ := mk.1.cell 1; have c0_2 : _ = some _ := mk.1.cell 2; have c0_3 : _ = some _ := mk.1.cell 3; have c0_f := mk.1.free; have c0_l := mk.1.lt; have c1_0 : _ = some _ := mk.2.1.cell 0; have c1_1 : _ = some _ := mk.2.1.cell 1; have c1_2 : _ = some _ := mk.2.1.cell 2; have c1_3 : _ = some _ := mk.2.1.cell 3; have c1_f := mk.2.1.free; have c1_l := mk.2.1.lt; have c2_0 : _ = some _ := mk.2.2.1.cell 0; have c2_1 : _ = some _ := mk.2.2.1.cell 1; have c2_2 : _ = some _ := mk.2.2.1.cell 2; have c2_3 : _ = some _ := mk.2.2.1.cell 3; have c2_f := mk.2.2.1.free; have c2_l := mk.2.2.1.lt; have c3_0 : _ = some _ := mk.2.2.2.1.cell 0; have c3_1 : _ = some _ := mk.2.2.2.1.cell 1; have c3_2 : _ = some _ := mk.2.2.2.1.cell 2; have c3_3 : _ = some _ := mk.2.2.2.1.cell 3; have c3_f := mk.2.2.2.1.free; have c3_l := mk.2.2.2.1.lt; clear mk)
        | (go_at_call 101; (with_reducible refine (b_plusl a.sh b.sh sy _ B2.out HSY.out D2.out V1 _ (by assumption)).mono ?_); rintro e w' ⟨rfl, hx'⟩; (try clear c0_0 c0_1 c0_2 c0_3 c1_0 c1_1 c1_2 c1_3 c2_0 c2_1 c2_2 c2_3 c3_0 c3_1 c3_2 c3_3 c0_f c1_f c2_f c3_f c0_l c1_l c2_l c3_l); have mk := MV1.out _ hx'; have c0_0 : _ = some _ := mk.1.cell 0; have c0_1 : _ = some _ := mk.1.cell 1; have c0_2 : _ = some _ := mk.1.cell 2; have c0_3 : _ = some _ := mk.1.cell 3; have c0_f := mk.1.free; have c0_l := mk.1.lt; have c1_0 : _ = some _ := mk.2.1.cell 0; have c1_1 : _ = some _ := mk.2.1.cell 1; have c1_2 : _ = some _ := mk.2.1.cell 2; have c1_3 : _ = some _ := mk.2.1.cell 3; have c1_f := mk.2.1.free; have c1_l := mk.2.1.lt; have c2_0 : _ = some _ := mk.2.2.1.cell 0; have c2_1 : _ = some _ := mk.2.2.1.cell 1; have c2_2 : _ = some _ := mk.2.2.1.cell 2; have c2_3 : _ = some _ := mk.2.2.1.cell 3; have c2_f := mk.2.2.1.free; have c2_l := mk.2.2.1.lt; have c3_0 : _ = some _ := mk.2.2.2.1.cell 0; have c3_1 : _ = some _ := mk.2.2.2.1.cell 1; have c3_2 : _ = some _ := mk.2.2.2.1.cell 2; have c3_3 : _ = some _ := mk.2.2.2.1.cell 3; have c3_f := mk.2.2.2.1.free; have c3_l := mk.2.2.2.1.lt; clear mk)
        | fail)
      exact bodyPost_ret (by simp [results, Try.results71, go_sem, c3_0, c3_1, c3_2, c3_3, c3_l, Nat.ne_of_lt c3_l, Nat.ne_of_gt c3_l] <;> (first | exact ⟨rfl, rfl⟩ | exact ⟨rfl, rfl, rfl, rfl⟩ | rfl)) rfl ⟨by rw [E.out] <;> rfl, by (refine hx.trans ?_; with_reducible repeat (first | assumption | exact xV1.trans hx' | exact xV1.trans (by assumption) | apply Ext.alloc | apply Ext.drew | (refine Ext.store1 ?_ (by omega) _)))⟩
  · as_aux_lemma =>
      obtain ⟨W3, hW3⟩ : ∃ W3, W3 = (((w.alloc (.cells #[.int .u64 a.ul, .int .u64 a.uh, .int .i64 a.sl, .int .i64 a.sh] 24)).alloc (.cells #[.int .u64 b.ul, .int .u64 b.uh, .int .i64 b.sl, .int .i64 b.sh] 24)).alloc (.cells #[.int .u64 0, .int .u64 0, .int .i64 0, .int .i64 0] 24)) := ⟨_, rfl⟩
      have x3 : Ext w W3 := by rw [hW3]; exact ((((Ext.refl w).alloc _).alloc _).alloc _)
      have MK := hide (fun w' (h : Ext W3 w') => bk3 (hW3 ▸ h))
      have hx' : Ext W3 W3 := Ext.refl _
      obtain ⟨sx, hsx⟩ : ∃ sx, wrap64 (a.sl + b.sl) = sx := ⟨_, rfl⟩
      obtain ⟨sy, hsy⟩ : ∃ sy, wrap64 (a.sh + b.sh) = sy := ⟨_, rfl⟩
      have HSX := hide hsx
      have HSY := hide hsy
      have H64 := hide (b_add64 a.uh b.uh (a.uh + b.uh - 18446744073709551616) 1 ha.2.1.1 hb.2.1.1 (by omega) (by omega))
      have E : Hid (bsum a b = (⟨0, 18446744073709551615, -9223372036854775808, 9223372036854775807⟩ : Rg)) := hide (by unfold bsum; simp only [Rg.mk.injEq]; refine ⟨?_, ?_, ?_, ?_⟩ <;> (split <;> omega))
      have D1 : Hid (decide (-9223372036854775808 ≤ a.sl + b.sl ∧ a.sl + b.sl ≤ 9223372036854775807) = false) := hide (by simp; omega)
      have D2 : Hid (decide (-9223372036854775808 ≤ a.sh + b.sh ∧ a.sh + b.sh ≤ 9223372036854775807) = false) := hide (by simp; omega)
      have B1 := hide (show (-9223372036854775808 ≤ a.sl ∧ a.sl ≤ 9223372036854775807) ∧ (-9223372036854775808 ≤ b.sl ∧ b.sl ≤ 9223372036854775807) from ⟨ha.2.2.1, hb.2.2.1⟩)
      have B2 := hide (show (-9223372036854775808 ≤ a.sh ∧ a.sh ≤ 9223372036854775807) ∧ (-9223372036854775808 ≤ b.sh ∧ b.sh ≤ 9223372036854775807) from ⟨ha.2.2.2, hb.2.2.2⟩)
      clear hsx hsy c2 c3 MB
      go_enter Try.func71, Try.ntmps71
      go_wp2_with fail
      rw [← hW3]
      clear hW3
      (try clear c0_0 c0_1 c0_2 c0_3 c1_0 c1_1 c1_2 c1_3 c2_0 c2_1 c2_2 c2_3 c0_f c1_f c2_f c0_l c1_l c2_l); have mk := MK.out _ hx'; have c0_0 : _ = some _ := mk.1.cell 0; have c0_1 : _ = some _ := mk.1.cell 1; have c0_2 : _ = some _ := mk.1.cell 2; have c0_3 : _ = some _ := mk.1.cell 3; have c0_f := mk.1.free; have c0_l := mk.1.lt; have c1_0 : _ = some _ := mk.2.1.cell 0; have c1_1 : _ = some _ := mk.2.1.cell 1; have c1_2 : _ = some _ := mk.2.1.cell 2; have c1_3 : _ = some _ := mk.2.1.cell 3; have c1_f := mk.2.1.free; have c1_l := mk.2.1.lt; have c2_0 : _ = some _ := mk.2.2.1.cell 0; have c2_1 : _ = some _ := mk.2.2.1.cell 1; have c2_2 : _ = some _ := mk.2.2.1.cell 2; have c2_3 : _ = some _ := mk.2.2.1.cell 3; have c2_f := mk.2.2.1.free; have c2_l := mk.2.2.1.lt; clear mk
      go_wp2_with (first
        | (go_at_call 13; (with_reducible refine (b_all W3 _ (by assumption)).mono ?_); rintro e w' ⟨rfl, hx'⟩; (try clear c0_0 c0_1 c0_2 c0_3 c1_0 c1_1 c1_2 c1_3 c2_0 c2_1 c2_2 c2_3 c0_f c1_f c2_f c0_l c1_l c2_l); have mk := MK.out _ hx'; have c0_0 : _ = some _ := mk.1.cell 0; have c0_1 : _ = some _ := mk.1.cell 1; have c0_2 : _ = some _ := mk.1.cell 2; have c0_3 : _ = some _ := mk.1.cell 3; have c0_f := mk.1.free; have c0_l := mk.1.lt; have c1_0 : _ = some _ := mk.2.1.cell 0; have c1_1 : _ = some _ := mk.2.1.cell 1; have c1_2 : _ = some _ := mk.2.1.cell 2; have c1_3 : _ = some _ := mk.2.1.cell 3; have c1_f := mk.2.1.free; have c1_l := mk.2.1.lt; have c2_0 : _ = some _ := mk.2.2.1.cell 0; have c2_1 : _ = some _ := mk.2.2.1.cell 1; have c2_2 : _ = some _ := mk.2.2.1.cell 2; have c2_3 : _ = some _ := mk.2.2.1.cell 3; have c2_f := mk.2.2.1.free; have c2_l := mk.2.2.1.lt; clear mk)
        | fail)
      obtain ⟨V1, hV1⟩ : ∃ V1, V1 = (w'.alloc (.cells #[.int .u64 ball.ul, .int .u64 ball.uh, .int .i64 ball.sl, .int .i64 ball.sh] 24)) := ⟨_, rfl⟩
      rw [← hV1]
      obtain ⟨b1, hb1⟩ : ∃ b1, b1 = w'.heap.size := ⟨_, rfl⟩
      rw [← hb1]
      have xV1 : Ext w V1 := by rw [hV1]; exact ((x3.trans hx').alloc _)
      have xq : Ext W3 V1 := by rw [hV1]; exact (hx'.alloc _)
      have cn : ∀ w2, Ext V1 w2 → Bk w2 (b1) #[.int .u64 ball.ul, .int .u64 ball.uh, .int .i64 ball.sl, .int .i64 ball.sh] 24 := fun w2 h => by rw [hb1]; have hh := bk1 (hV1 ▸ h); exact hh.1
      have MV1 := hide (fun w2 (h : Ext V1 w2) => (⟨cn w2 h, MK.out w2 (xq.trans h)⟩ : Bk w2 (b1) #[.int .u64 ball.ul, .int .u64 ball.uh, .int .i64 ball.sl, .int .i64 ball.sh] 24 ∧ _))
      have lb1 : w.heap.size ≤ b1 := by rw [hb1]; exact (x3.trans hx').size
      have n1_0 : w.heap.size < b1 := by rw [hb1]; exact (MK.out _ hx').1.lt
      have n1_1 : w.heap.size + 1 < b1 := by rw [hb1]; exact (MK.out _ hx').2.1.lt
      have n1_2 : w.heap.size + 1 + 1 < b1 := by rw [hb1]; exact (MK.out _ hx').2.2.1.lt
      clear hV1 hb1 xq cn hx'
      (try clear c0_0 c0_1 c0_2 c0_3 c1_0 c1_1 c1_2 c1_3 c2_0 c2_1 c2_2 c2_3 c0_f c1_f c2_f c0_l c1_l c2_l)
      have hx' : Ext V1 V1 := Ext.refl _
      (try clear c0_0 c0_1 c0_2 c0_3 c1_0 c1_1 c1_2 c1_3 c2_0 c2_1 c2_2 c2_3 c3_0 c3_1 c3_2 c3_3 c0_f c1_f c2_f c3_f c0_l c1_l c2_l c3_l); have mk := MV1.out _ hx'; have c0_0 : _ = some _ := mk.1.cell 0; have c0_1 : _ = some _ := mk.1.cell 1; have c0_2 : _ = some _ := mk.1.cell 2; have c0_3 : _ = some _ := mk.1.cell 3; have c0_f := mk.1.free; have c0_l := mk.1.lt; have c1_0 : _ = some _ := mk.2.1.cell 0; have c1_1 : _ = some _ := mk.2.1.cell 1; have c1_2 : _ = some _ := mk.2.1.cell 2; have c1_3 : _ = some _ := mk.2.1.cell 3; have c1_f := mk.2.1.free; have c1_l := mk.2.1.lt; have c2_0 : _ = some _ := mk.2.2.1.cell 0; have c2_1 : _ = some _ := mk.2.2.1.cell 1; have c2_2 : _ = some _ := mk.2.2.1.cell 2; have c2_3 : _ = some _ := mk.2.2.1.cell 3; have c2_f := mk.2.2.1.free; have c2_l := mk.2.2.1.lt; have c3_0 : _ = some _ := mk.2.2.2.1.cell 0; have c3_1 : _ = some _ := mk.2.2.2.1.cell 1; have c3_2 : _ = some _ := mk.2.2.2.1.cell 2; have c3_3 : _ = some _ := mk.2.2.2.1.cell 3; have c3_f := mk.2.2.2.1.free; have c3_l := mk.2.2.2.1.lt; clear mk
      go_quiet (fail)
      go_wp2_with fail
      go_wp2_with (first
        | simp only [H64.out]
        | fail)
      obtain ⟨w', hw'⟩ : ∃ w', w' = V1.drewN nq := ⟨_, rfl⟩
      rw [← hw']
      have hx' : Ext V1 w' := by rw [hw']; exact (Ext.refl _).drewN nq
      clear hw'
      (try clear c0_0 c0_1 c0_2 c0_3 c1_0 c1_1 c1_2 c1_3 c2_0 c2_1 c2_2 c2_3 c3_0 c3_1 c3_2 c3_3 c0_f c1_f c2_f c3_f c0_l c1_l c2_l c3_l); have mk := MV1.out _ hx'; have c0_0 : _ = some _ := mk.1.cell 0; have c0_1 : _ = some _ := mk.1.cell 1; have c0_2 : _ = some _ := mk.1.cell 2; have c0_3 : _ = some _ := mk.1.cell 3; have c0_f := mk.1.free; have c0_l := mk.1.lt; have c1_0 : _ = some _ := mk.2.1.cell 0; have c1_1 : _ = some _ := mk.2.1.cell 1; have c1_2 : _ = some _ := mk.2.1.cell 2; have c1_3 : _ = some _ := mk.2.1.cell 3; have c1_f := mk.2.1.free; have c1_l := mk.2.1.lt; have c2_0 : _ = some _ := mk.2.2.1.cell 0; have c2_1 : _ = some _ := mk.2.2.1.cell 1; have c2_2 : _ = some _ := mk.2.2.1.cell 2; have c2_3 : _ = some _ := mk.2.2.1.cell 3; have c2_f := mk.2.2.1.free; have c2_l := mk.2.2.1.lt; have c3_0 : _ = some _ := mk.2.2.2.1.cell 0; have c3_1 : _ = some _ := mk.2.2.2.1.cell 1; have c3_2 : _ = some _ := mk.2.2.2.1.cell 2; have c3_3 : _ = some _ := mk.2.2.2.1.cell 3; have c3_f := mk.2.2.2.1.free; have c3_l := mk.2.2.2.1.lt; clear mk
      go_wp2_with (first
        | (go_at_call 101; (with_reducible refine (b_plusl a.sl b.sl sx _ B1.out HSX.out D1.out V1 _ (by assumption)).mono ?_); rintro e w' ⟨rfl, hx'⟩; (try clear c0_0 c0_1 c0_2 c0_3 c1_0 c1_1 c1_2 c1_3 c2_0 c2_1 c2_2 c2_3 c3_0 c3_1 c3_2 c3_3 c0_f c1_f c2_f c3_f c0_l c1_l c2_l c3_l); have mk := MV1.out _ hx'; have c0_0 : _ = some _ := mk.1.cell 0; have c0_1 : _ = some _ := mk.1.cell 1; have c0_2 : _ = some _ := mk.1.cell 2; have c0_3 : _ = some _ := mk.1.cell 3; have c0_f := mk.1.free; have c0_l := mk.1.lt; have c1_0 : _ = some _ := mk.2.1.cell 0; have c1_1 : _ = some _ := mk.2.1.cell 1; have c1_2 : _ = some _ := mk.2.1.cell 2; have c1_3 : _ = some _ := mk.2.1.cell 3; have c1_f := mk.2.1.free; have c1_l := mk.2.1.lt; have c2_0 : _ = some _ := mk.2.2.1.cell 0; have c2_1 : _ = some _ := mk.2.2.1.cell 1; have c2_2 : _ = some _ := mk.2.2.1.cell 2; have c2_3 : _ = some _ := mk.2.2.1.cell 3; have c2_f := mk.2.2.1.free; have c2_l := mk.2.2.1.lt; have c3_0 : _ = some _ := mk.2.2.2.1.cell 0; have c3_1 : _ = some _ := mk.2.2.2.1.cell 1; have c3_2 : _ = some _ := mk.2.2.2.1.cell 2; have c3_3 : _ = some _ := mk.2.2.2.1.cell 3; have c3_f := mk.2.2.2.1.free; have c3_l := mk.2.2.2.1.lt; clear mk)
        | (go_at_call 101; (with_reducible refine (b_plusl a.sh b.sh sy _ B2.out HSY.out D2.out V1 _ (by assumption)).mono ?_); rintro e w' ⟨rfl, hx'⟩; (try clear c0_0 c0_1 c0_2 c0_3 c1_0 c1_1 c1_2 c1_3 c2_0 c2_1 c2_2 c2_3 c3_0 c3_1 c3_2 c3_3 c0_f c1_f c2_f c3_f c0_l c1_l c2_l c3_l); have mk := MV1.out _ hx'; have c0_0 : _ = some _ := mk.1.cell 0; have c0_1 : _ = some _ := mk.1.cell 1; have c0_2 : _ = some _ := mk.1.cell 2; have c0_3 : _ = some _ := mk.1.cell 3; have c0_f := mk.1.free; have c0_l := mk.1.lt; have c1_0 : _ = some _ := mk.2.1.cell 0; have c1_1 : _ = some _ := mk.2.1.cell 1; have c1_2 : _ = some _ := mk.2.1.cell 2; have c1_3 : _ = some _ := mk.2.1.cell 3; have c1_f := mk.2.1.free; have c1_l := mk.2.1.lt; have c2_0 : _ = some _ := mk.2.2.1.cell 0; have c2_1 : _ = some _ := mk.2.2.1.cell 1; have c2_2 : _ = some _ := mk.2.2.1.cell 2; have c2_3 : _ = some _ := mk.2.2.1.cell 3; have c2_f := mk.2.2.1.free; have c2_l := mk.2.2.1.lt; have c3_0 : _ = some _ := mk.2.2.2.1.cell 0; have c3_1 : _ = some _ := mk.2.2.2.1.cell 1; have c3_2 : _ = some _ := mk.2.2.2.1.cell 2; have c3_3 : _ = some _ := mk.2.2.2.1.cell 3; have c3_f := mk.2.2.2.1.free; have c3_l := mk.2.2.2.1.lt; clear mk)
        | fail)
      exact bodyPost_ret (by simp [results, Try.results71, go_sem, c3_0, c3_1, c3_2, c3_3, c3_l, Nat.ne_of_lt c3_l, Nat.ne_of_gt c3_l] <;> (first | exact ⟨rfl, rfl⟩ | exact ⟨rfl, rfl, rfl, rfl⟩ | rfl)) rfl ⟨by rw [E.out] <;> rfl, by (refine hx.trans ?_; with_reducible repeat (first | assumption | exact xV1.trans hx' | exact xV1.trans (by assumption) | apply Ext.alloc | apply Ext.drew | (refine Ext.store1 ?_ (by omega) _)))⟩
end Go.Proofs.Ytcngfmhhaleoaaa
