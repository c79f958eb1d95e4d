/- The walk of In of package bounds. -/
import Derived.Test.YtcngfmhhaleoaaaBdC
import Derived.Test.YtcngfmhhaleoaaaHeld
import Derived.Deep.RegionHeld3
import Derived.Deep.RegionWith
import Derived.Deep.DeepCutAuto
import Derived.Deep.CutBlock
set_option linter.unusedVariables false
set_option linter.unusedSimpArgs false
namespace Go.Proofs.Ytcngfmhhaleoaaa
open Go.RowKit Go.ChangeShapes Go.WideShapes

theorem b_joinl (a b j : Rg) (h : bjoin a b = j) (W w : World) (hx : Ext W w) :
    Calls Try.prog 28 #[.agg #[.int .u64 a.ul, .int .u64 a.uh, .int .i64 a.sl, .int .i64 a.sh], .agg #[.int .u64 b.ul, .int .u64 b.uh, .int .i64 b.sl, .int .i64 b.sh]] w fun e w' => e = .returned (.agg #[.int .u64 j.ul, .int .u64 j.uh, .int .i64 j.sl, .int .i64 j.sh]) ∧ Ext W w' := by
  rw [← h]
  exact b_join a b W w hx

set_option maxRecDepth 100000 in
set_option maxHeartbeats 8000000 in
theorem b_in (a b : Rg) (t : Bool) (h : bin a b = t) (W w : World) (hx : Ext W w) :
    Calls Try.prog 30 #[.agg #[.int .u64 a.ul, .int .u64 a.uh, .int .i64 a.sl, .int .i64 a.sh], .agg #[.int .u64 b.ul, .int .u64 b.uh, .int .i64 b.sl, .int .i64 b.sh]] w fun e w' => e = .returned (.bool t) ∧ Ext W w' := by
  subst h
  obtain ⟨W3, hW3⟩ : ∃ W3, W3 = ((w.alloc (.cells #[.int .u64 a.ul, .int .u64 a.uh, .int .i64 a.sl, .int .i64 a.sh] 24)).alloc (.cells #[.int .u64 b.ul, .int .u64 b.uh, .int .i64 b.sl, .int .i64 b.sh] 24)) := ⟨_, rfl⟩
  have x3 : Ext w W3 := by rw [hW3]; exact (((Ext.refl w).alloc _).alloc _)
  have MK := hide (fun w' (h : Ext W3 w') => bk2 (hW3 ▸ h))
  have hx' : Ext W3 W3 := Ext.refl _
  have hc : (bmay a = false ∧ bin a b = false) ∨ (bmay a = true ∧ bmay b = false ∧ bin a b = false) ∨ (bmay a = true ∧ bmay b = true ∧ bin a b = decide (bjoin a b = b)) := by
    unfold bin
    cases bmay a <;> cases bmay b <;> simp
  rcases hc with ⟨h1, h3⟩ | ⟨h1, h2, h3⟩ | ⟨h1, h2, h3⟩
  · rw [h3]
    clear h3
    have H1 := hide h1
    clear h1
    go_enter Try.func30, Try.ntmps30
    go_wp2_with fail
    rw [← hW3]
    clear hW3
    (try clear c0_0 c0_1 c0_2 c0_3 c1_0 c1_1 c1_2 c1_3 c0_f c1_f c0_l c1_l); have mk := MK.out _ hx'; have c0_0 : _ = some _ := mk.1.cell 0; have c0_1 : _ = some _ := mk.1.cell 1; have c0_2 : _ = some _ := mk.1.cell 2; have c0_3 : _ = some _ := mk.1.cell 3; have c0_f := mk.1.free; have c0_l := mk.1.lt; have c1_0 : _ = some _ := mk.2.1.cell 0; have c1_1 : _ = some _ := mk.2.1.cell 1; have c1_2 : _ = some _ := mk.2.1.cell 2; have c1_3 : _ = some _ := mk.2.1.cell 3; have c1_f := mk.2.1.free; have c1_l := mk.2.1.lt; clear mk
    have SK : Hid (∀ w', Ext W3 w' → Ext W3 w' ∧ w'.cell? ⟨w.heap.size, 0, none⟩ = some (.int .u64 a.ul) ∧ w'.cell? ⟨w.heap.size, 1, none⟩ = some (.int .u64 a.uh) ∧ w'.cell? ⟨w.heap.size, 2, none⟩ = some (.int .i64 a.sl) ∧ w'.cell? ⟨w.heap.size, 3, none⟩ = some (.int .i64 a.sh) ∧ w'.cell? ⟨w.heap.size + 1, 0, none⟩ = some (.int .u64 b.ul) ∧ w'.cell? ⟨w.heap.size + 1, 1, none⟩ = some (.int .u64 b.uh) ∧ w'.cell? ⟨w.heap.size + 1, 2, none⟩ = some (.int .i64 b.sl) ∧ w'.cell? ⟨w.heap.size + 1, 3, none⟩ = some (.int .i64 b.sh)) := hide (fun w' h => ⟨h, (MK.out _ h).1.cell 0, (MK.out _ h).1.cell 1, (MK.out _ h).1.cell 2, (MK.out _ h).1.cell 3, (MK.out _ h).2.1.cell 0, (MK.out _ h).2.1.cell 1, (MK.out _ h).2.1.cell 2, (MK.out _ h).2.1.cell 3⟩)
    (try clear c0_0 c0_1 c0_2 c0_3 c1_0 c1_1 c1_2 c1_3 c0_f c1_f c0_l c1_l)
    refine wp_region_held_drew (S := (fun w' => Ext W3 w' ∧ w'.cell? ⟨w.heap.size, 0, none⟩ = some (.int .u64 a.ul) ∧ w'.cell? ⟨w.heap.size, 1, none⟩ = some (.int .u64 a.uh) ∧ w'.cell? ⟨w.heap.size, 2, none⟩ = some (.int .i64 a.sl) ∧ w'.cell? ⟨w.heap.size, 3, none⟩ = some (.int .i64 a.sh) ∧ w'.cell? ⟨w.heap.size + 1, 0, none⟩ = some (.int .u64 b.ul) ∧ w'.cell? ⟨w.heap.size + 1, 1, none⟩ = some (.int .u64 b.uh) ∧ w'.cell? ⟨w.heap.size + 1, 2, none⟩ = some (.int .i64 b.sl) ∧ w'.cell? ⟨w.heap.size + 1, 3, none⟩ = some (.int .i64 b.sh))) (by kernel_rfl) ?_ (fun hHeld => ?_)
    · (try dsimp only); (first | exact SK.out _ hx' | exact SK.out _ hx'.drew)
    refine take_run (i := 0) (d := (some 5)) (oi := _) (v := ?_) rfl rfl (by kernel_rfl) (by kernel_rfl) (by kernel_rfl) (fun _ _ _ h => h) (by kernel_rfl) ?_ (by assumption) ?_
    rotate_left 1
    · intro w hSw; (try dsimp only at hSw); go_simp; (try with_reducible rfl)
    try simp only [Act.put, List.setIfInBounds_toArray, List.set_cons_zero, List.set_cons_succ]
    refine wpAnyH_ready (rs := [1]) (by kernel_rfl) (by simp) ?_
    refine AllReadyH.cons (o := _) rfl (fun K hK => ?_) AllReadyH.nil
    go_simp
    (first | (go_at_call 16; have hq := And.left ‹Ext W3 _ ∧ _›; (with_reducible refine (b_may a _ H1.out W3 _ hq).mono ?_); rintro e w' ⟨rfl, hx'⟩) | (go_at_call 16; have hq := And.left ‹Ext W3 _ ∧ _›; (with_reducible refine (b_may b _ H2.out W3 _ hq).mono ?_); rintro e w' ⟨rfl, hx'⟩) | (go_at_call 28; have hq := And.left ‹Ext W3 _ ∧ _›; (with_reducible refine (b_joinl a b _ HJ.out W3 _ hq).mono ?_); rintro e w' ⟨rfl, hx'⟩))
    go_wp2_with fail
    refine hK.out _ _ ?_ (fun hHeld2 => ?_)
    · (try dsimp only); (first | exact SK.out _ hx' | exact SK.out _ hx'.drew)
    clear hK K hHeld
    have hHeld := hHeld2
    clear hHeld2
    try simp only [Act.put, List.setIfInBounds_toArray, List.set_cons_zero, List.set_cons_succ]
    refine take_run (i := 2) (d := (some 7)) (oi := _) (v := ?_) rfl rfl (by kernel_rfl) (by kernel_rfl) (by kernel_rfl) (fun _ _ _ h => h) (by kernel_rfl) ?_ (by assumption) ?_
    rotate_left 1
    · intro w hSw; (try dsimp only at hSw); go_simp; (try with_reducible rfl)
    try simp only [Act.put, List.setIfInBounds_toArray, List.set_cons_zero, List.set_cons_succ]
    refine take_skip (i := 3) (d := (some 8)) (oi := _) rfl rfl (by kernel_rfl) (by kernel_rfl) (by kernel_rfl) (fun _ _ _ h => h) (by kernel_rfl) (by assumption) ?_
    try simp only [Act.put, List.setIfInBounds_toArray, List.set_cons_zero, List.set_cons_succ]
    refine take_skip (i := 4) (d := (some 9)) (oi := _) rfl rfl (by kernel_rfl) (by kernel_rfl) (by kernel_rfl) (fun _ _ _ h => h) (by kernel_rfl) (by assumption) ?_
    try simp only [Act.put, List.setIfInBounds_toArray, List.set_cons_zero, List.set_cons_succ]
    refine take_run (i := 5) (d := (some 10)) (oi := _) (v := ?_) rfl rfl (by kernel_rfl) (by kernel_rfl) (by kernel_rfl) (fun _ _ _ h => h) (by kernel_rfl) ?_ (by assumption) ?_
    rotate_left 1
    · intro w hSw; (try dsimp only at hSw); go_simp; (try with_reducible rfl)
    try simp only [Act.put, List.setIfInBounds_toArray, List.set_cons_zero, List.set_cons_succ]
    refine take_run (i := 6) (d := (some 11)) (oi := _) (v := ?_) rfl rfl (by kernel_rfl) (by kernel_rfl) (by kernel_rfl) (fun _ _ _ h => h) (by kernel_rfl) ?_ (by assumption) ?_
    rotate_left 1
    · intro w hSw; (try dsimp only at hSw); go_simp; (try with_reducible rfl)
    try simp only [Act.put, List.setIfInBounds_toArray, List.set_cons_zero, List.set_cons_succ]
    refine take_skip (i := 7) (d := (some 12)) (oi := _) rfl rfl (by kernel_rfl) (by kernel_rfl) (by kernel_rfl) (fun _ _ _ h => h) (by kernel_rfl) (by assumption) ?_
    try simp only [Act.put, List.setIfInBounds_toArray, List.set_cons_zero, List.set_cons_succ]
    refine take_skip (i := 8) (d := (some 13)) (oi := _) rfl rfl (by kernel_rfl) (by kernel_rfl) (by kernel_rfl) (fun _ _ _ h => h) (by kernel_rfl) (by assumption) ?_
    try simp only [Act.put, List.setIfInBounds_toArray, List.set_cons_zero, List.set_cons_succ]
    refine take_skip (i := 9) (d := (some 14)) (oi := _) rfl rfl (by kernel_rfl) (by kernel_rfl) (by kernel_rfl) (fun _ _ _ h => h) (by kernel_rfl) (by assumption) ?_
    try simp only [Act.put, List.setIfInBounds_toArray, List.set_cons_zero, List.set_cons_succ]
    refine take_skip (i := 10) (d := (some 15)) (oi := _) rfl rfl (by kernel_rfl) (by kernel_rfl) (by kernel_rfl) (fun _ _ _ h => h) (by kernel_rfl) (by assumption) ?_
    try simp only [Act.put, List.setIfInBounds_toArray, List.set_cons_zero, List.set_cons_succ]
    refine take_skip (i := 11) (d := (some 16)) (oi := _) rfl rfl (by kernel_rfl) (by kernel_rfl) (by kernel_rfl) (fun _ _ _ h => h) (by kernel_rfl) (by assumption) ?_
    try simp only [Act.put, List.setIfInBounds_toArray, List.set_cons_zero, List.set_cons_succ]
    refine take_run (i := 12) (d := (some 17)) (oi := _) (v := ?_) rfl rfl (by kernel_rfl) (by kernel_rfl) (by kernel_rfl) (fun _ _ _ h => h) (by kernel_rfl) ?_ (by assumption) ?_
    rotate_left 1
    · intro w hSw; (try dsimp only at hSw); go_simp; (try with_reducible rfl)
    try simp only [Act.put, List.setIfInBounds_toArray, List.set_cons_zero, List.set_cons_succ]
    refine take_run (i := 13) (d := (some 4)) (oi := _) (v := ?_) rfl rfl (by kernel_rfl) (by kernel_rfl) (by kernel_rfl) (fun _ _ _ h => h) (by kernel_rfl) ?_ (by assumption) ?_
    rotate_left 1
    · intro w hSw; (try dsimp only at hSw); go_simp; (try with_reducible rfl)
    try simp only [Act.put, List.setIfInBounds_toArray, List.set_cons_zero, List.set_cons_succ]
    refine wpAnyH_done (by kernel_rfl) ?_ _
    clear SK
    go_wp2_with fail
    go_ret
    exact ⟨rfl, hx.trans (x3.trans (by assumption))⟩
  · rw [h3]
    clear h3
    have H1 := hide h1
    have H2 := hide h2
    clear h2
    clear h1
    go_enter Try.func30, Try.ntmps30
    go_wp2_with fail
    rw [← hW3]
    clear hW3
    (try clear c0_0 c0_1 c0_2 c0_3 c1_0 c1_1 c1_2 c1_3 c0_f c1_f c0_l c1_l); have mk := MK.out _ hx'; have c0_0 : _ = some _ := mk.1.cell 0; have c0_1 : _ = some _ := mk.1.cell 1; have c0_2 : _ = some _ := mk.1.cell 2; have c0_3 : _ = some _ := mk.1.cell 3; have c0_f := mk.1.free; have c0_l := mk.1.lt; have c1_0 : _ = some _ := mk.2.1.cell 0; have c1_1 : _ = some _ := mk.2.1.cell 1; have c1_2 : _ = some _ := mk.2.1.cell 2; have c1_3 : _ = some _ := mk.2.1.cell 3; have c1_f := mk.2.1.free; have c1_l := mk.2.1.lt; clear mk
    have SK : Hid (∀ w', Ext W3 w' → Ext W3 w' ∧ w'.cell? ⟨w.heap.size, 0, none⟩ = some (.int .u64 a.ul) ∧ w'.cell? ⟨w.heap.size, 1, none⟩ = some (.int .u64 a.uh) ∧ w'.cell? ⟨w.heap.size, 2, none⟩ = some (.int .i64 a.sl) ∧ w'.cell? ⟨w.heap.size, 3, none⟩ = some (.int .i64 a.sh) ∧ w'.cell? ⟨w.heap.size + 1, 0, none⟩ = some (.int .u64 b.ul) ∧ w'.cell? ⟨w.heap.size + 1, 1, none⟩ = some (.int .u64 b.uh) ∧ w'.cell? ⟨w.heap.size + 1, 2, none⟩ = some (.int .i64 b.sl) ∧ w'.cell? ⟨w.heap.size + 1, 3, none⟩ = some (.int .i64 b.sh)) := hide (fun w' h => ⟨h, (MK.out _ h).1.cell 0, (MK.out _ h).1.cell 1, (MK.out _ h).1.cell 2, (MK.out _ h).1.cell 3, (MK.out _ h).2.1.cell 0, (MK.out _ h).2.1.cell 1, (MK.out _ h).2.1.cell 2, (MK.out _ h).2.1.cell 3⟩)
    (try clear c0_0 c0_1 c0_2 c0_3 c1_0 c1_1 c1_2 c1_3 c0_f c1_f c0_l c1_l)
    refine wp_region_held_drew (S := (fun w' => Ext W3 w' ∧ w'.cell? ⟨w.heap.size, 0, none⟩ = some (.int .u64 a.ul) ∧ w'.cell? ⟨w.heap.size, 1, none⟩ = some (.int .u64 a.uh) ∧ w'.cell? ⟨w.heap.size, 2, none⟩ = some (.int .i64 a.sl) ∧ w'.cell? ⟨w.heap.size, 3, none⟩ = some (.int .i64 a.sh) ∧ w'.cell? ⟨w.heap.size + 1, 0, none⟩ = some (.int .u64 b.ul) ∧ w'.cell? ⟨w.heap.size + 1, 1, none⟩ = some (.int .u64 b.uh) ∧ w'.cell? ⟨w.heap.size + 1, 2, none⟩ = some (.int .i64 b.sl) ∧ w'.cell? ⟨w.heap.size + 1, 3, none⟩ = some (.int .i64 b.sh))) (by kernel_rfl) ?_ (fun hHeld => ?_)
    · (try dsimp only); (first | exact SK.out _ hx' | exact SK.out _ hx'.drew)
    refine take_run (i := 0) (d := (some 5)) (oi := _) (v := ?_) rfl rfl (by kernel_rfl) (by kernel_rfl) (by kernel_rfl) (fun _ _ _ h => h) (by kernel_rfl) ?_ (by assumption) ?_
    rotate_left 1
    · intro w hSw; (try dsimp only at hSw); go_simp; (try with_reducible rfl)
    try simp only [Act.put, List.setIfInBounds_toArray, List.set_cons_zero, List.set_cons_succ]
    refine wpAnyH_ready (rs := [1]) (by kernel_rfl) (by simp) ?_
    refine AllReadyH.cons (o := _) rfl (fun K hK => ?_) AllReadyH.nil
    go_simp
    (first | (go_at_call 16; have hq := And.left ‹Ext W3 _ ∧ _›; (with_reducible refine (b_may a _ H1.out W3 _ hq).mono ?_); rintro e w' ⟨rfl, hx'⟩) | (go_at_call 16; have hq := And.left ‹Ext W3 _ ∧ _›; (with_reducible refine (b_may b _ H2.out W3 _ hq).mono ?_); rintro e w' ⟨rfl, hx'⟩) | (go_at_call 28; have hq := And.left ‹Ext W3 _ ∧ _›; (with_reducible refine (b_joinl a b _ HJ.out W3 _ hq).mono ?_); rintro e w' ⟨rfl, hx'⟩))
    go_wp2_with fail
    refine hK.out _ _ ?_ (fun hHeld2 => ?_)
    · (try dsimp only); (first | exact SK.out _ hx' | exact SK.out _ hx'.drew)
    clear hK K hHeld
    have hHeld := hHeld2
    clear hHeld2
    try simp only [Act.put, List.setIfInBounds_toArray, List.set_cons_zero, List.set_cons_succ]
    refine take_run (i := 2) (d := (some 7)) (oi := _) (v := ?_) rfl rfl (by kernel_rfl) (by kernel_rfl) (by kernel_rfl) (fun _ _ _ h => h) (by kernel_rfl) ?_ (by assumption) ?_
    rotate_left 1
    · intro w hSw; (try dsimp only at hSw); go_simp; (try with_reducible rfl)
    try simp only [Act.put, List.setIfInBounds_toArray, List.set_cons_zero, List.set_cons_succ]
    refine take_run (i := 3) (d := (some 8)) (oi := _) (v := ?_) rfl rfl (by kernel_rfl) (by kernel_rfl) (by kernel_rfl) (fun _ _ _ h => h) (by kernel_rfl) ?_ (by assumption) ?_
    rotate_left 1
    · intro w hSw; (try dsimp only at hSw); go_simp; (try with_reducible rfl)
    try simp only [Act.put, List.setIfInBounds_toArray, List.set_cons_zero, List.set_cons_succ]
    refine wpAnyH_ready (rs := [4]) (by kernel_rfl) (by simp) ?_
    refine AllReadyH.cons (o := _) rfl (fun K hK => ?_) AllReadyH.nil
    go_simp
    (first | (go_at_call 16; have hq := And.left ‹Ext W3 _ ∧ _›; (with_reducible refine (b_may a _ H1.out W3 _ hq).mono ?_); rintro e w' ⟨rfl, hx'⟩) | (go_at_call 16; have hq := And.left ‹Ext W3 _ ∧ _›; (with_reducible refine (b_may b _ H2.out W3 _ hq).mono ?_); rintro e w' ⟨rfl, hx'⟩) | (go_at_call 28; have hq := And.left ‹Ext W3 _ ∧ _›; (with_reducible refine (b_joinl a b _ HJ.out W3 _ hq).mono ?_); rintro e w' ⟨rfl, hx'⟩))
    go_wp2_with fail
    refine hK.out _ _ ?_ (fun hHeld2 => ?_)
    · (try dsimp only); (first | exact SK.out _ hx' | exact SK.out _ hx'.drew)
    clear hK K hHeld
    have hHeld := hHeld2
    clear hHeld2
    try simp only [Act.put, List.setIfInBounds_toArray, List.set_cons_zero, List.set_cons_succ]
    refine take_run (i := 5) (d := (some 10)) (oi := _) (v := ?_) rfl rfl (by kernel_rfl) (by kernel_rfl) (by kernel_rfl) (fun _ _ _ h => h) (by kernel_rfl) ?_ (by assumption) ?_
    rotate_left 1
    · intro w hSw; (try dsimp only at hSw); go_simp; (try with_reducible rfl)
    try simp only [Act.put, List.setIfInBounds_toArray, List.set_cons_zero, List.set_cons_succ]
    refine take_run (i := 6) (d := (some 11)) (oi := _) (v := ?_) rfl rfl (by kernel_rfl) (by kernel_rfl) (by kernel_rfl) (fun _ _ _ h => h) (by kernel_rfl) ?_ (by assumption) ?_
    rotate_left 1
    · intro w hSw; (try dsimp only at hSw); go_simp; (try with_reducible rfl)
    try simp only [Act.put, List.setIfInBounds_toArray, List.set_cons_zero, List.set_cons_succ]
    refine take_skip (i := 7) (d := (some 12)) (oi := _) rfl rfl (by kernel_rfl) (by kernel_rfl) (by kernel_rfl) (fun _ _ _ h => h) (by kernel_rfl) (by assumption) ?_
    try simp only [Act.put, List.setIfInBounds_toArray, List.set_cons_zero, List.set_cons_succ]
    refine take_skip (i := 8) (d := (some 13)) (oi := _) rfl rfl (by kernel_rfl) (by kernel_rfl) (by kernel_rfl) (fun _ _ _ h => h) (by kernel_rfl) (by assumption) ?_
    try simp only [Act.put, List.setIfInBounds_toArray, List.set_cons_zero, List.set_cons_succ]
    refine take_skip (i := 9) (d := (some 14)) (oi := _) rfl rfl (by kernel_rfl) (by kernel_rfl) (by kernel_rfl) (fun _ _ _ h => h) (by kernel_rfl) (by assumption) ?_
    try simp only [Act.put, List.setIfInBounds_toArray, List.set_cons_zero, List.set_cons_succ]
    refine take_skip (i := 10) (d := (some 15)) (oi := _) rfl rfl (by kernel_rfl) (by kernel_rfl) (by kernel_rfl) (fun _ _ _ h => h) (by kernel_rfl) (by assumption) ?_
    try simp only [Act.put, List.setIfInBounds_toArray, List.set_cons_zero, List.set_cons_succ]
    refine take_skip (i := 11) (d := (some 16)) (oi := _) rfl rfl (by kernel_rfl) (by kernel_rfl) (by kernel_rfl) (fun _ _ _ h => h) (by kernel_rfl) (by assumption) ?_
    try simp only [Act.put, List.setIfInBounds_toArray, List.set_cons_zero, List.set_cons_succ]
    refine take_run (i := 12) (d := (some 17)) (oi := _) (v := ?_) rfl rfl (by kernel_rfl) (by kernel_rfl) (by kernel_rfl) (fun _ _ _ h => h) (by kernel_rfl) ?_ (by assumption) ?_
    rotate_left 1
    · intro w hSw; (try dsimp only at hSw); go_simp; (try with_reducible rfl)
    try simp only [Act.put, List.setIfInBounds_toArray, List.set_cons_zero, List.set_cons_succ]
    refine take_run (i := 13) (d := (some 4)) (oi := _) (v := ?_) rfl rfl (by kernel_rfl) (by kernel_rfl) (by kernel_rfl) (fun _ _ _ h => h) (by kernel_rfl) ?_ (by assumption) ?_
    rotate_left 1
    · intro w hSw; (try dsimp only at hSw); go_simp; (try with_reducible rfl)
    try simp only [Act.put, List.setIfInBounds_toArray, List.set_cons_zero, List.set_cons_succ]
    refine wpAnyH_done (by kernel_rfl) ?_ _
    clear SK
    go_wp2_with fail
    go_ret
    exact ⟨rfl, hx.trans (x3.trans (by assumption))⟩
  · rw [h3]
    clear h3
    have H1 := hide h1
    have H2 := hide h2
    clear h2
    clear h1
    obtain ⟨j, hj⟩ : ∃ j, bjoin a b = j := ⟨_, rfl⟩
    rw [hj]
    by_cases q : j = b
    · rw [decide_eq_true q]
      have HJ := hide hj
      have e1 : j.ul = b.ul := by rw [q]
      have e2 : j.uh = b.uh := by rw [q]
      have e3 : j.sl = b.sl := by rw [q]
      have e4 : j.sh = b.sh := by rw [q]
      clear hj q
      go_enter Try.func30, Try.ntmps30
      go_wp2_with fail
      rw [← hW3]
      clear hW3
      (try clear c0_0 c0_1 c0_2 c0_3 c1_0 c1_1 c1_2 c1_3 c0_f c1_f c0_l c1_l); have mk := MK.out _ hx'; have c0_0 : _ = some _ := mk.1.cell 0; have c0_1 : _ = some _ := mk.1.cell 1; have c0_2 : _ = some _ := mk.1.cell 2; have c0_3 : _ = some _ := mk.1.cell 3; have c0_f := mk.1.free; have c0_l := mk.1.lt; have c1_0 : _ = some _ := mk.2.1.cell 0; have c1_1 : _ = some _ := mk.2.1.cell 1; have c1_2 : _ = some _ := mk.2.1.cell 2; have c1_3 : _ = some _ := mk.2.1.cell 3; have c1_f := mk.2.1.free; have c1_l := mk.2.1.lt; clear mk
      have SK : Hid (∀ w', Ext W3 w' → Ext W3 w' ∧ w'.cell? ⟨w.heap.size, 0, none⟩ = some (.int .u64 a.ul) ∧ w'.cell? ⟨w.heap.size, 1, none⟩ = some (.int .u64 a.uh) ∧ w'.cell? ⟨w.heap.size, 2, none⟩ = some (.int .i64 a.sl) ∧ w'.cell? ⟨w.heap.size, 3, none⟩ = some (.int .i64 a.sh) ∧ w'.cell? ⟨w.heap.size + 1, 0, none⟩ = some (.int .u64 b.ul) ∧ w'.cell? ⟨w.heap.size + 1, 1, none⟩ = some (.int .u64 b.uh) ∧ w'.cell? ⟨w.heap.size + 1, 2, none⟩ = some (.int .i64 b.sl) ∧ w'.cell? ⟨w.heap.size + 1, 3, none⟩ = some (.int .i64 b.sh)) := hide (fun w' h => ⟨h, (MK.out _ h).1.cell 0, (MK.out _ h).1.cell 1, (MK.out _ h).1.cell 2, (MK.out _ h).1.cell 3, (MK.out _ h).2.1.cell 0, (MK.out _ h).2.1.cell 1, (MK.out _ h).2.1.cell 2, (MK.out _ h).2.1.cell 3⟩)
      (try clear c0_0 c0_1 c0_2 c0_3 c1_0 c1_1 c1_2 c1_3 c0_f c1_f c0_l c1_l)
      refine wp_region_held_drew (S := (fun w' => Ext W3 w' ∧ w'.cell? ⟨w.heap.size, 0, none⟩ = some (.int .u64 a.ul) ∧ w'.cell? ⟨w.heap.size, 1, none⟩ = some (.int .u64 a.uh) ∧ w'.cell? ⟨w.heap.size, 2, none⟩ = some (.int .i64 a.sl) ∧ w'.cell? ⟨w.heap.size, 3, none⟩ = some (.int .i64 a.sh) ∧ w'.cell? ⟨w.heap.size + 1, 0, none⟩ = some (.int .u64 b.ul) ∧ w'.cell? ⟨w.heap.size + 1, 1, none⟩ = some (.int .u64 b.uh) ∧ w'.cell? ⟨w.heap.size + 1, 2, none⟩ = some (.int .i64 b.sl) ∧ w'.cell? ⟨w.heap.size + 1, 3, none⟩ = some (.int .i64 b.sh))) (by kernel_rfl) ?_ (fun hHeld => ?_)
      · (try dsimp only); (first | exact SK.out _ hx' | exact SK.out _ hx'.drew)
      refine take_run (i := 0) (d := (some 5)) (oi := _) (v := ?_) rfl rfl (by kernel_rfl) (by kernel_rfl) (by kernel_rfl) (fun _ _ _ h => h) (by kernel_rfl) ?_ (by assumption) ?_
      rotate_left 1
      · intro w hSw; (try dsimp only at hSw); go_simp; (try with_reducible rfl)
      try simp only [Act.put, List.setIfInBounds_toArray, List.set_cons_zero, List.set_cons_succ]
      refine wpAnyH_ready (rs := [1]) (by kernel_rfl) (by simp) ?_
      refine AllReadyH.cons (o := _) rfl (fun K hK => ?_) AllReadyH.nil
      go_simp
      (first | (go_at_call 16; have hq := And.left ‹Ext W3 _ ∧ _›; (with_reducible refine (b_may a _ H1.out W3 _ hq).mono ?_); rintro e w' ⟨rfl, hx'⟩) | (go_at_call 16; have hq := And.left ‹Ext W3 _ ∧ _›; (with_reducible refine (b_may b _ H2.out W3 _ hq).mono ?_); rintro e w' ⟨rfl, hx'⟩) | (go_at_call 28; have hq := And.left ‹Ext W3 _ ∧ _›; (with_reducible refine (b_joinl a b _ HJ.out W3 _ hq).mono ?_); rintro e w' ⟨rfl, hx'⟩))
      go_wp2_with fail
      refine hK.out _ _ ?_ (fun hHeld2 => ?_)
      · (try dsimp only); (first | exact SK.out _ hx' | exact SK.out _ hx'.drew)
      clear hK K hHeld
      have hHeld := hHeld2
      clear hHeld2
      try simp only [Act.put, List.setIfInBounds_toArray, List.set_cons_zero, List.set_cons_succ]
      refine take_run (i := 2) (d := (some 7)) (oi := _) (v := ?_) rfl rfl (by kernel_rfl) (by kernel_rfl) (by kernel_rfl) (fun _ _ _ h => h) (by kernel_rfl) ?_ (by assumption) ?_
      rotate_left 1
      · intro w hSw; (try dsimp only at hSw); go_simp; (try with_reducible rfl)
      try simp only [Act.put, List.setIfInBounds_toArray, List.set_cons_zero, List.set_cons_succ]
      refine take_run (i := 3) (d := (some 8)) (oi := _) (v := ?_) rfl rfl (by kernel_rfl) (by kernel_rfl) (by kernel_rfl) (fun _ _ _ h => h) (by kernel_rfl) ?_ (by assumption) ?_
      rotate_left 1
      · intro w hSw; (try dsimp only at hSw); go_simp; (try with_reducible rfl)
      try simp only [Act.put, List.setIfInBounds_toArray, List.set_cons_zero, List.set_cons_succ]
      refine wpAnyH_ready (rs := [4]) (by kernel_rfl) (by simp) ?_
      refine AllReadyH.cons (o := _) rfl (fun K hK => ?_) AllReadyH.nil
      go_simp
      (first | (go_at_call 16; have hq := And.left ‹Ext W3 _ ∧ _›; (with_reducible refine (b_may a _ H1.out W3 _ hq).mono ?_); rintro e w' ⟨rfl, hx'⟩) | (go_at_call 16; have hq := And.left ‹Ext W3 _ ∧ _›; (with_reducible refine (b_may b _ H2.out W3 _ hq).mono ?_); rintro e w' ⟨rfl, hx'⟩) | (go_at_call 28; have hq := And.left ‹Ext W3 _ ∧ _›; (with_reducible refine (b_joinl a b _ HJ.out W3 _ hq).mono ?_); rintro e w' ⟨rfl, hx'⟩))
      go_wp2_with fail
      refine hK.out _ _ ?_ (fun hHeld2 => ?_)
      · (try dsimp only); (first | exact SK.out _ hx' | exact SK.out _ hx'.drew)
      clear hK K hHeld
      have hHeld := hHeld2
      clear hHeld2
      try simp only [Act.put, List.setIfInBounds_toArray, List.set_cons_zero, List.set_cons_succ]
      refine take_run (i := 5) (d := (some 10)) (oi := _) (v := ?_) rfl rfl (by kernel_rfl) (by kernel_rfl) (by kernel_rfl) (fun _ _ _ h => h) (by kernel_rfl) ?_ (by assumption) ?_
      rotate_left 1
      · intro w hSw; (try dsimp only at hSw); go_simp; (try with_reducible rfl)
      try simp only [Act.put, List.setIfInBounds_toArray, List.set_cons_zero, List.set_cons_succ]
      refine take_run (i := 6) (d := (some 11)) (oi := _) (v := ?_) rfl rfl (by kernel_rfl) (by kernel_rfl) (by kernel_rfl) (fun _ _ _ h => h) (by kernel_rfl) ?_ (by assumption) ?_
      rotate_left 1
      · intro w hSw; (try dsimp only at hSw); go_simp; (try with_reducible rfl)
      try simp only [Act.put, List.setIfInBounds_toArray, List.set_cons_zero, List.set_cons_succ]
      refine take_run (i := 7) (d := (some 12)) (oi := _) (v := ?_) rfl rfl (by kernel_rfl) (by kernel_rfl) (by kernel_rfl) (fun _ _ _ h => h) (by kernel_rfl) ?_ (by assumption) ?_
      rotate_left 1
      · intro w hSw; (try dsimp only at hSw); go_simp; (try with_reducible rfl)
      try simp only [Act.put, List.setIfInBounds_toArray, List.set_cons_zero, List.set_cons_succ]
      refine take_run (i := 8) (d := (some 13)) (oi := _) (v := ?_) rfl rfl (by kernel_rfl) (by kernel_rfl) (by kernel_rfl) (fun _ _ _ h => h) (by kernel_rfl) ?_ (by assumption) ?_
      rotate_left 1
      · intro w hSw; (try dsimp only at hSw); go_simp; (try with_reducible rfl)
      try simp only [Act.put, List.setIfInBounds_toArray, List.set_cons_zero, List.set_cons_succ]
      refine take_run (i := 10) (d := (some 15)) (oi := _) (v := ?_) rfl rfl (by kernel_rfl) (by kernel_rfl) (by kernel_rfl) (fun _ _ _ h => h) (by kernel_rfl) ?_ (by assumption) ?_
      rotate_left 1
      · intro w hSw; (try dsimp only at hSw); go_simp; (try with_reducible rfl)
      try simp only [Act.put, List.setIfInBounds_toArray, List.set_cons_zero, List.set_cons_succ]
      refine wpAnyH_ready (rs := [9]) (by kernel_rfl) (by simp) ?_
      refine AllReadyH.cons (o := _) rfl (fun K hK => ?_) AllReadyH.nil
      go_simp
      (first | (go_at_call 16; have hq := And.left ‹Ext W3 _ ∧ _›; (with_reducible refine (b_may a _ H1.out W3 _ hq).mono ?_); rintro e w' ⟨rfl, hx'⟩) | (go_at_call 16; have hq := And.left ‹Ext W3 _ ∧ _›; (with_reducible refine (b_may b _ H2.out W3 _ hq).mono ?_); rintro e w' ⟨rfl, hx'⟩) | (go_at_call 28; have hq := And.left ‹Ext W3 _ ∧ _›; (with_reducible refine (b_joinl a b _ HJ.out W3 _ hq).mono ?_); rintro e w' ⟨rfl, hx'⟩))
      go_wp2_with fail
      refine hK.out _ _ ?_ (fun hHeld2 => ?_)
      · (try dsimp only); (first | exact SK.out _ hx' | exact SK.out _ hx'.drew)
      clear hK K hHeld
      have hHeld := hHeld2
      clear hHeld2
      try simp only [Act.put, List.setIfInBounds_toArray, List.set_cons_zero, List.set_cons_succ]
      refine take_run (i := 11) (d := (some 16)) (oi := _) (v := ?_) rfl rfl (by kernel_rfl) (by kernel_rfl) (by kernel_rfl) (fun _ _ _ h => h) (by kernel_rfl) ?_ (by assumption) ?_
      rotate_left 1
      · intro w hSw; (try dsimp only at hSw); go_simp; (try with_reducible rfl)
      try simp only [Act.put, List.setIfInBounds_toArray, List.set_cons_zero, List.set_cons_succ]
      refine take_run (i := 12) (d := (some 17)) (oi := _) (v := ?_) rfl rfl (by kernel_rfl) (by kernel_rfl) (by kernel_rfl) (fun _ _ _ h => h) (by kernel_rfl) ?_ (by assumption) ?_
      rotate_left 1
      · intro w hSw; (try dsimp only at hSw); go_simp; (try with_reducible rfl)
      try simp only [Act.put, List.setIfInBounds_toArray, List.set_cons_zero, List.set_cons_succ]
      refine take_run (i := 13) (d := (some 4)) (oi := _) (v := ?_) rfl rfl (by kernel_rfl) (by kernel_rfl) (by kernel_rfl) (fun _ _ _ h => h) (by kernel_rfl) ?_ (by assumption) ?_
      rotate_left 1
      · intro w hSw; (try dsimp only at hSw); go_simp; (try with_reducible rfl)
      try simp only [Act.put, List.setIfInBounds_toArray, List.set_cons_zero, List.set_cons_succ]
      refine wpAnyH_done (by kernel_rfl) ?_ _
      clear SK
      go_wp2_with fail
      go_ret
      exact ⟨rfl, hx.trans (x3.trans (by assumption))⟩
    · rw [decide_eq_false q]
      have HJ := hide hj
      clear hj
      have hq : j.ul ≠ b.ul ∨ (j.ul = b.ul ∧ j.uh ≠ b.uh) ∨ (j.ul = b.ul ∧ j.uh = b.uh ∧ j.sl ≠ b.sl) ∨ (j.ul = b.ul ∧ j.uh = b.uh ∧ j.sl = b.sl ∧ j.sh ≠ b.sh) := by
        by_cases e1 : j.ul = b.ul
        · by_cases e2 : j.uh = b.uh
          · by_cases e3 : j.sl = b.sl
            · by_cases e4 : j.sh = b.sh
              · exfalso
                apply q
                cases j
                cases b
                simp_all
              · exact .inr (.inr (.inr ⟨e1, e2, e3, e4⟩))
            · exact .inr (.inr (.inl ⟨e1, e2, e3⟩))
          · exact .inr (.inl ⟨e1, e2⟩)
        · exact .inl e1
      clear q
      rcases hq with e1 | ⟨e1, e2⟩ | ⟨e1, e2, e3⟩ | ⟨e1, e2, e3, e4⟩
      · as_aux_lemma =>
          go_enter Try.func30, Try.ntmps30
          go_wp2_with fail
          rw [← hW3]
          clear hW3
          (try clear c0_0 c0_1 c0_2 c0_3 c1_0 c1_1 c1_2 c1_3 c0_f c1_f c0_l c1_l); have mk := MK.out _ hx'; have c0_0 : _ = some _ := mk.1.cell 0; have c0_1 : _ = some _ := mk.1.cell 1; have c0_2 : _ = some _ := mk.1.cell 2; have c0_3 : _ = some _ := mk.1.cell 3; have c0_f := mk.1.free; have c0_l := mk.1.lt; have c1_0 : _ = some _ := mk.2.1.cell 0; have c1_1 : _ = some _ := mk.2.1.cell 1; have c1_2 : _ = some _ := mk.2.1.cell 2; have c1_3 : _ = some _ := mk.2.1.cell 3; have c1_f := mk.2.1.free; have c1_l := mk.2.1.lt; clear mk
          have SK : Hid (∀ w', Ext W3 w' → Ext W3 w' ∧ w'.cell? ⟨w.heap.size, 0, none⟩ = some (.int .u64 a.ul) ∧ w'.cell? ⟨w.heap.size, 1, none⟩ = some (.int .u64 a.uh) ∧ w'.cell? ⟨w.heap.size, 2, none⟩ = some (.int .i64 a.sl) ∧ w'.cell? ⟨w.heap.size, 3, none⟩ = some (.int .i64 a.sh) ∧ w'.cell? ⟨w.heap.size + 1, 0, none⟩ = some (.int .u64 b.ul) ∧ w'.cell? ⟨w.heap.size + 1, 1, none⟩ = some (.int .u64 b.uh) ∧ w'.cell? ⟨w.heap.size + 1, 2, none⟩ = some (.int .i64 b.sl) ∧ w'.cell? ⟨w.heap.size + 1, 3, none⟩ = some (.int .i64 b.sh)) := hide (fun w' h => ⟨h, (MK.out _ h).1.cell 0, (MK.out _ h).1.cell 1, (MK.out _ h).1.cell 2, (MK.out _ h).1.cell 3, (MK.out _ h).2.1.cell 0, (MK.out _ h).2.1.cell 1, (MK.out _ h).2.1.cell 2, (MK.out _ h).2.1.cell 3⟩)
          (try clear c0_0 c0_1 c0_2 c0_3 c1_0 c1_1 c1_2 c1_3 c0_f c1_f c0_l c1_l)
          refine wp_region_held_drew (S := (fun w' => Ext W3 w' ∧ w'.cell? ⟨w.heap.size, 0, none⟩ = some (.int .u64 a.ul) ∧ w'.cell? ⟨w.heap.size, 1, none⟩ = some (.int .u64 a.uh) ∧ w'.cell? ⟨w.heap.size, 2, none⟩ = some (.int .i64 a.sl) ∧ w'.cell? ⟨w.heap.size, 3, none⟩ = some (.int .i64 a.sh) ∧ w'.cell? ⟨w.heap.size + 1, 0, none⟩ = some (.int .u64 b.ul) ∧ w'.cell? ⟨w.heap.size + 1, 1, none⟩ = some (.int .u64 b.uh) ∧ w'.cell? ⟨w.heap.size + 1, 2, none⟩ = some (.int .i64 b.sl) ∧ w'.cell? ⟨w.heap.size + 1, 3, none⟩ = some (.int .i64 b.sh))) (by kernel_rfl) ?_ (fun hHeld => ?_)
          · (try dsimp only); (first | exact SK.out _ hx' | exact SK.out _ hx'.drew)
          refine take_run (i := 0) (d := (some 5)) (oi := _) (v := ?_) rfl rfl (by kernel_rfl) (by kernel_rfl) (by kernel_rfl) (fun _ _ _ h => h) (by kernel_rfl) ?_ (by assumption) ?_
          rotate_left 1
          · intro w hSw; (try dsimp only at hSw); go_simp; (try with_reducible rfl)
          try simp only [Act.put, List.setIfInBounds_toArray, List.set_cons_zero, List.set_cons_succ]
          refine wpAnyH_ready (rs := [1]) (by kernel_rfl) (by simp) ?_
          refine AllReadyH.cons (o := _) rfl (fun K hK => ?_) AllReadyH.nil
          go_simp
          (first | (go_at_call 16; have hq := And.left ‹Ext W3 _ ∧ _›; (with_reducible refine (b_may a _ H1.out W3 _ hq).mono ?_); rintro e w' ⟨rfl, hx'⟩) | (go_at_call 16; have hq := And.left ‹Ext W3 _ ∧ _›; (with_reducible refine (b_may b _ H2.out W3 _ hq).mono ?_); rintro e w' ⟨rfl, hx'⟩) | (go_at_call 28; have hq := And.left ‹Ext W3 _ ∧ _›; (with_reducible refine (b_joinl a b _ HJ.out W3 _ hq).mono ?_); rintro e w' ⟨rfl, hx'⟩))
          go_wp2_with fail
          refine hK.out _ _ ?_ (fun hHeld2 => ?_)
          · (try dsimp only); (first | exact SK.out _ hx' | exact SK.out _ hx'.drew)
          clear hK K hHeld
          have hHeld := hHeld2
          clear hHeld2
          try simp only [Act.put, List.setIfInBounds_toArray, List.set_cons_zero, List.set_cons_succ]
          refine take_run (i := 2) (d := (some 7)) (oi := _) (v := ?_) rfl rfl (by kernel_rfl) (by kernel_rfl) (by kernel_rfl) (fun _ _ _ h => h) (by kernel_rfl) ?_ (by assumption) ?_
          rotate_left 1
          · intro w hSw; (try dsimp only at hSw); go_simp; (try with_reducible rfl)
          try simp only [Act.put, List.setIfInBounds_toArray, List.set_cons_zero, List.set_cons_succ]
          refine take_run (i := 3) (d := (some 8)) (oi := _) (v := ?_) rfl rfl (by kernel_rfl) (by kernel_rfl) (by kernel_rfl) (fun _ _ _ h => h) (by kernel_rfl) ?_ (by assumption) ?_
          rotate_left 1
          · intro w hSw; (try dsimp only at hSw); go_simp; (try with_reducible rfl)
          try simp only [Act.put, List.setIfInBounds_toArray, List.set_cons_zero, List.set_cons_succ]
          refine wpAnyH_ready (rs := [4]) (by kernel_rfl) (by simp) ?_
          refine AllReadyH.cons (o := _) rfl (fun K hK => ?_) AllReadyH.nil
          go_simp
          (first | (go_at_call 16; have hq := And.left ‹Ext W3 _ ∧ _›; (with_reducible refine (b_may a _ H1.out W3 _ hq).mono ?_); rintro e w' ⟨rfl, hx'⟩) | (go_at_call 16; have hq := And.left ‹Ext W3 _ ∧ _›; (with_reducible refine (b_may b _ H2.out W3 _ hq).mono ?_); rintro e w' ⟨rfl, hx'⟩) | (go_at_call 28; have hq := And.left ‹Ext W3 _ ∧ _›; (with_reducible refine (b_joinl a b _ HJ.out W3 _ hq).mono ?_); rintro e w' ⟨rfl, hx'⟩))
          go_wp2_with fail
          refine hK.out _ _ ?_ (fun hHeld2 => ?_)
          · (try dsimp only); (first | exact SK.out _ hx' | exact SK.out _ hx'.drew)
          clear hK K hHeld
          have hHeld := hHeld2
          clear hHeld2
          try simp only [Act.put, List.setIfInBounds_toArray, List.set_cons_zero, List.set_cons_succ]
          refine take_run (i := 5) (d := (some 10)) (oi := _) (v := ?_) rfl rfl (by kernel_rfl) (by kernel_rfl) (by kernel_rfl) (fun _ _ _ h => h) (by kernel_rfl) ?_ (by assumption) ?_
          rotate_left 1
          · intro w hSw; (try dsimp only at hSw); go_simp; (try with_reducible rfl)
          try simp only [Act.put, List.setIfInBounds_toArray, List.set_cons_zero, List.set_cons_succ]
          refine take_run (i := 6) (d := (some 11)) (oi := _) (v := ?_) rfl rfl (by kernel_rfl) (by kernel_rfl) (by kernel_rfl) (fun _ _ _ h => h) (by kernel_rfl) ?_ (by assumption) ?_
          rotate_left 1
          · intro w hSw; (try dsimp only at hSw); go_simp; (try with_reducible rfl)
          try simp only [Act.put, List.setIfInBounds_toArray, List.set_cons_zero, List.set_cons_succ]
          refine take_run (i := 7) (d := (some 12)) (oi := _) (v := ?_) rfl rfl (by kernel_rfl) (by kernel_rfl) (by kernel_rfl) (fun _ _ _ h => h) (by kernel_rfl) ?_ (by assumption) ?_
          rotate_left 1
          · intro w hSw; (try dsimp only at hSw); go_simp; (try with_reducible rfl)
          try simp only [Act.put, List.setIfInBounds_toArray, List.set_cons_zero, List.set_cons_succ]
          refine take_run (i := 8) (d := (some 13)) (oi := _) (v := ?_) rfl rfl (by kernel_rfl) (by kernel_rfl) (by kernel_rfl) (fun _ _ _ h => h) (by kernel_rfl) ?_ (by assumption) ?_
          rotate_left 1
          · intro w hSw; (try dsimp only at hSw); go_simp; (try with_reducible rfl)
          try simp only [Act.put, List.setIfInBounds_toArray, List.set_cons_zero, List.set_cons_succ]
          refine take_run (i := 10) (d := (some 15)) (oi := _) (v := ?_) rfl rfl (by kernel_rfl) (by kernel_rfl) (by kernel_rfl) (fun _ _ _ h => h) (by kernel_rfl) ?_ (by assumption) ?_
          rotate_left 1
          · intro w hSw; (try dsimp only at hSw); go_simp; (try with_reducible rfl)
          try simp only [Act.put, List.setIfInBounds_toArray, List.set_cons_zero, List.set_cons_succ]
          refine wpAnyH_ready (rs := [9]) (by kernel_rfl) (by simp) ?_
          refine AllReadyH.cons (o := _) rfl (fun K hK => ?_) AllReadyH.nil
          go_simp
          (first | (go_at_call 16; have hq := And.left ‹Ext W3 _ ∧ _›; (with_reducible refine (b_may a _ H1.out W3 _ hq).mono ?_); rintro e w' ⟨rfl, hx'⟩) | (go_at_call 16; have hq := And.left ‹Ext W3 _ ∧ _›; (with_reducible refine (b_may b _ H2.out W3 _ hq).mono ?_); rintro e w' ⟨rfl, hx'⟩) | (go_at_call 28; have hq := And.left ‹Ext W3 _ ∧ _›; (with_reducible refine (b_joinl a b _ HJ.out W3 _ hq).mono ?_); rintro e w' ⟨rfl, hx'⟩))
          go_wp2_with fail
          refine hK.out _ _ ?_ (fun hHeld2 => ?_)
          · (try dsimp only); (first | exact SK.out _ hx' | exact SK.out _ hx'.drew)
          clear hK K hHeld
          have hHeld := hHeld2
          clear hHeld2
          try simp only [Act.put, List.setIfInBounds_toArray, List.set_cons_zero, List.set_cons_succ]
          refine take_run (i := 11) (d := (some 16)) (oi := _) (v := ?_) rfl rfl (by kernel_rfl) (by kernel_rfl) (by kernel_rfl) (fun _ _ _ h => h) (by kernel_rfl) ?_ (by assumption) ?_
          rotate_left 1
          · intro w hSw; (try dsimp only at hSw); go_simp; (try with_reducible rfl)
          try simp only [Act.put, List.setIfInBounds_toArray, List.set_cons_zero, List.set_cons_succ]
          refine take_run (i := 12) (d := (some 17)) (oi := _) (v := ?_) rfl rfl (by kernel_rfl) (by kernel_rfl) (by kernel_rfl) (fun _ _ _ h => h) (by kernel_rfl) ?_ (by assumption) ?_
          rotate_left 1
          · intro w hSw; (try dsimp only at hSw); go_simp; (try with_reducible rfl)
          try simp only [Act.put, List.setIfInBounds_toArray, List.set_cons_zero, List.set_cons_succ]
          refine take_run (i := 13) (d := (some 4)) (oi := _) (v := ?_) rfl rfl (by kernel_rfl) (by kernel_rfl) (by kernel_rfl) (fun _ _ _ h => h) (by kernel_rfl) ?_ (by assumption) ?_
          rotate_left 1
          · intro w hSw; (try dsimp only at hSw); go_simp; (try with_reducible rfl)
          try simp only [Act.put, List.setIfInBounds_toArray, List.set_cons_zero, List.set_cons_succ]
          refine wpAnyH_done (by kernel_rfl) ?_ _
          clear SK
          go_wp2_with fail
          go_ret
          exact ⟨rfl, hx.trans (x3.trans (by assumption))⟩
      · as_aux_lemma =>
          go_enter Try.func30, Try.ntmps30
          go_wp2_with fail
          rw [← hW3]
          clear hW3
          (try clear c0_0 c0_1 c0_2 c0_3 c1_0 c1_1 c1_2 c1_3 c0_f c1_f c0_l c1_l); have mk := MK.out _ hx'; have c0_0 : _ = some _ := mk.1.cell 0; have c0_1 : _ = some _ := mk.1.cell 1; have c0_2 : _ = some _ := mk.1.cell 2; have c0_3 : _ = some _ := mk.1.cell 3; have c0_f := mk.1.free; have c0_l := mk.1.lt; have c1_0 : _ = some _ := mk.2.1.cell 0; have c1_1 : _ = some _ := mk.2.1.cell 1; have c1_2 : _ = some _ := mk.2.1.cell 2; have c1_3 : _ = some _ := mk.2.1.cell 3; have c1_f := mk.2.1.free; have c1_l := mk.2.1.lt; clear mk
          have SK : Hid (∀ w', Ext W3 w' → Ext W3 w' ∧ w'.cell? ⟨w.heap.size, 0, none⟩ = some (.int .u64 a.ul) ∧ w'.cell? ⟨w.heap.size, 1, none⟩ = some (.int .u64 a.uh) ∧ w'.cell? ⟨w.heap.size, 2, none⟩ = some (.int .i64 a.sl) ∧ w'.cell? ⟨w.heap.size, 3, none⟩ = some (.int .i64 a.sh) ∧ w'.cell? ⟨w.heap.size + 1, 0, none⟩ = some (.int .u64 b.ul) ∧ w'.cell? ⟨w.heap.size + 1, 1, none⟩ = some (.int .u64 b.uh) ∧ w'.cell? ⟨w.heap.size + 1, 2, none⟩ = some (.int .i64 b.sl) ∧ w'.cell? ⟨w.heap.size + 1, 3, none⟩ = some (.int .i64 b.sh)) := hide (fun w' h => ⟨h, (MK.out _ h).1.cell 0, (MK.out _ h).1.cell 1, (MK.out _ h).1.cell 2, (MK.out _ h).1.cell 3, (MK.out _ h).2.1.cell 0, (MK.out _ h).2.1.cell 1, (MK.out _ h).2.1.cell 2, (MK.out _ h).2.1.cell 3⟩)
          (try clear c0_0 c0_1 c0_2 c0_3 c1_0 c1_1 c1_2 c1_3 c0_f c1_f c0_l c1_l)
          refine wp_region_held_drew (S := (fun w' => Ext W3 w' ∧ w'.cell? ⟨w.heap.size, 0, none⟩ = some (.int .u64 a.ul) ∧ w'.cell? ⟨w.heap.size, 1, none⟩ = some (.int .u64 a.uh) ∧ w'.cell? ⟨w.heap.size, 2, none⟩ = some (.int .i64 a.sl) ∧ w'.cell? ⟨w.heap.size, 3, none⟩ = some (.int .i64 a.sh) ∧ w'.cell? ⟨w.heap.size + 1, 0, none⟩ = some (.int .u64 b.ul) ∧ w'.cell? ⟨w.heap.size + 1, 1, none⟩ = some (.int .u64 b.uh) ∧ w'.cell? ⟨w.heap.size + 1, 2, none⟩ = some (.int .i64 b.sl) ∧ w'.cell? ⟨w.heap.size + 1, 3, none⟩ = some (.int .i64 b.sh))) (by kernel_rfl) ?_ (fun hHeld => ?_)
          · (try dsimp only); (first | exact SK.out _ hx' | exact SK.out _ hx'.drew)
          refine take_run (i := 0) (d := (some 5)) (oi := _) (v := ?_) rfl rfl (by kernel_rfl) (by kernel_rfl) (by kernel_rfl) (fun _ _ _ h => h) (by kernel_rfl) ?_ (by assumption) ?_
          rotate_left 1
          · intro w hSw; (try dsimp only at hSw); go_simp; (try with_reducible rfl)
          try simp only [Act.put, List.setIfInBounds_toArray, List.set_cons_zero, List.set_cons_succ]
          refine wpAnyH_ready (rs := [1]) (by kernel_rfl) (by simp) ?_
          refine AllReadyH.cons (o := _) rfl (fun K hK => ?_) AllReadyH.nil
          go_simp
          (first | (go_at_call 16; have hq := And.left ‹Ext W3 _ ∧ _›; (with_reducible refine (b_may a _ H1.out W3 _ hq).mono ?_); rintro e w' ⟨rfl, hx'⟩) | (go_at_call 16; have hq := And.left ‹Ext W3 _ ∧ _›; (with_reducible refine (b_may b _ H2.out W3 _ hq).mono ?_); rintro e w' ⟨rfl, hx'⟩) | (go_at_call 28; have hq := And.left ‹Ext W3 _ ∧ _›; (with_reducible refine (b_joinl a b _ HJ.out W3 _ hq).mono ?_); rintro e w' ⟨rfl, hx'⟩))
          go_wp2_with fail
          refine hK.out _ _ ?_ (fun hHeld2 => ?_)
          · (try dsimp only); (first | exact SK.out _ hx' | exact SK.out _ hx'.drew)
          clear hK K hHeld
          have hHeld := hHeld2
          clear hHeld2
          try simp only [Act.put, List.setIfInBounds_toArray, List.set_cons_zero, List.set_cons_succ]
          refine take_run (i := 2) (d := (some 7)) (oi := _) (v := ?_) rfl rfl (by kernel_rfl) (by kernel_rfl) (by kernel_rfl) (fun _ _ _ h => h) (by kernel_rfl) ?_ (by assumption) ?_
          rotate_left 1
          · intro w hSw; (try dsimp only at hSw); go_simp; (try with_reducible rfl)
          try simp only [Act.put, List.setIfInBounds_toArray, List.set_cons_zero, List.set_cons_succ]
          refine take_run (i := 3) (d := (some 8)) (oi := _) (v := ?_) rfl rfl (by kernel_rfl) (by kernel_rfl) (by kernel_rfl) (fun _ _ _ h => h) (by kernel_rfl) ?_ (by assumption) ?_
          rotate_left 1
          · intro w hSw; (try dsimp only at hSw); go_simp; (try with_reducible rfl)
          try simp only [Act.put, List.setIfInBounds_toArray, List.set_cons_zero, List.set_cons_succ]
          refine wpAnyH_ready (rs := [4]) (by kernel_rfl) (by simp) ?_
          refine AllReadyH.cons (o := _) rfl (fun K hK => ?_) AllReadyH.nil
          go_simp
          (first | (go_at_call 16; have hq := And.left ‹Ext W3 _ ∧ _›; (with_reducible refine (b_may a _ H1.out W3 _ hq).mono ?_); rintro e w' ⟨rfl, hx'⟩) | (go_at_call 16; have hq := And.left ‹Ext W3 _ ∧ _›; (with_reducible refine (b_may b _ H2.out W3 _ hq).mono ?_); rintro e w' ⟨rfl, hx'⟩) | (go_at_call 28; have hq := And.left ‹Ext W3 _ ∧ _›; (with_reducible refine (b_joinl a b _ HJ.out W3 _ hq).mono ?_); rintro e w' ⟨rfl, hx'⟩))
          go_wp2_with fail
          refine hK.out _ _ ?_ (fun hHeld2 => ?_)
          · (try dsimp only); (first | exact SK.out _ hx' | exact SK.out _ hx'.drew)
          clear hK K hHeld
          have hHeld := hHeld2
          clear hHeld2
          try simp only [Act.put, List.setIfInBounds_toArray, List.set_cons_zero, List.set_cons_succ]
          refine take_run (i := 5) (d := (some 10)) (oi := _) (v := ?_) rfl rfl (by kernel_rfl) (by kernel_rfl) (by kernel_rfl) (fun _ _ _ h => h) (by kernel_rfl) ?_ (by assumption) ?_
          rotate_left 1
          · intro w hSw; (try dsimp only at hSw); go_simp; (try with_reducible rfl)
          try simp only [Act.put, List.setIfInBounds_toArray, List.set_cons_zero, List.set_cons_succ]
          refine take_run (i := 6) (d := (some 11)) (oi := _) (v := ?_) rfl rfl (by kernel_rfl) (by kernel_rfl) (by kernel_rfl) (fun _ _ _ h => h) (by kernel_rfl) ?_ (by assumption) ?_
          rotate_left 1
          · intro w hSw; (try dsimp only at hSw); go_simp; (try with_reducible rfl)
          try simp only [Act.put, List.setIfInBounds_toArray, List.set_cons_zero, List.set_cons_succ]
          refine take_run (i := 7) (d := (some 12)) (oi := _) (v := ?_) rfl rfl (by kernel_rfl) (by kernel_rfl) (by kernel_rfl) (fun _ _ _ h => h) (by kernel_rfl) ?_ (by assumption) ?_
          rotate_left 1
          · intro w hSw; (try dsimp only at hSw); go_simp; (try with_reducible rfl)
          try simp only [Act.put, List.setIfInBounds_toArray, List.set_cons_zero, List.set_cons_succ]
          refine take_run (i := 8) (d := (some 13)) (oi := _) (v := ?_) rfl rfl (by kernel_rfl) (by kernel_rfl) (by kernel_rfl) (fun _ _ _ h => h) (by kernel_rfl) ?_ (by assumption) ?_
          rotate_left 1
          · intro w hSw; (try dsimp only at hSw); go_simp; (try with_reducible rfl)
          try simp only [Act.put, List.setIfInBounds_toArray, List.set_cons_zero, List.set_cons_succ]
          refine take_run (i := 10) (d := (some 15)) (oi := _) (v := ?_) rfl rfl (by kernel_rfl) (by kernel_rfl) (by kernel_rfl) (fun _ _ _ h => h) (by kernel_rfl) ?_ (by assumption) ?_
          rotate_left 1
          · intro w hSw; (try dsimp only at hSw); go_simp; (try with_reducible rfl)
          try simp only [Act.put, List.setIfInBounds_toArray, List.set_cons_zero, List.set_cons_succ]
          refine wpAnyH_ready (rs := [9]) (by kernel_rfl) (by simp) ?_
          refine AllReadyH.cons (o := _) rfl (fun K hK => ?_) AllReadyH.nil
          go_simp
          (first | (go_at_call 16; have hq := And.left ‹Ext W3 _ ∧ _›; (with_reducible refine (b_may a _ H1.out W3 _ hq).mono ?_); rintro e w' ⟨rfl, hx'⟩) | (go_at_call 16; have hq := And.left ‹Ext W3 _ ∧ _›; (with_reducible refine (b_may b _ H2.out W3 _ hq).mono ?_); rintro e w' ⟨rfl, hx'⟩) | (go_at_call 28; have hq := And.left ‹Ext W3 _ ∧ _›; (with_reducible refine (b_joinl a b _ HJ.out W3 _ hq).mono ?_); rintro e w' ⟨rfl, hx'⟩))
          go_wp2_with fail
          refine hK.out _ _ ?_ (fun hHeld2 => ?_)
          · (try dsimp only); (first | exact SK.out _ hx' | exact SK.out _ hx'.drew)
          clear hK K hHeld
          have hHeld := hHeld2
          clear hHeld2
          try simp only [Act.put, List.setIfInBounds_toArray, List.set_cons_zero, List.set_cons_succ]
          refine take_run (i := 11) (d := (some 16)) (oi := _) (v := ?_) rfl rfl (by kernel_rfl) (by kernel_rfl) (by kernel_rfl) (fun _ _ _ h => h) (by kernel_rfl) ?_ (by assumption) ?_
          rotate_left 1
          · intro w hSw; (try dsimp only at hSw); go_simp; (try with_reducible rfl)
          try simp only [Act.put, List.setIfInBounds_toArray, List.set_cons_zero, List.set_cons_succ]
          refine take_run (i := 12) (d := (some 17)) (oi := _) (v := ?_) rfl rfl (by kernel_rfl) (by kernel_rfl) (by kernel_rfl) (fun _ _ _ h => h) (by kernel_rfl) ?_ (by assumption) ?_
          rotate_left 1
          · intro w hSw; (try dsimp only at hSw); go_simp; (try with_reducible rfl)
          try simp only [Act.put, List.setIfInBounds_toArray, List.set_cons_zero, List.set_cons_succ]
          refine take_run (i := 13) (d := (some 4)) (oi := _) (v := ?_) rfl rfl (by kernel_rfl) (by kernel_rfl) (by kernel_rfl) (fun _ _ _ h => h) (by kernel_rfl) ?_ (by assumption) ?_
          rotate_left 1
          · intro w hSw; (try dsimp only at hSw); go_simp; (try with_reducible rfl)
          try simp only [Act.put, List.setIfInBounds_toArray, List.set_cons_zero, List.set_cons_succ]
          refine wpAnyH_done (by kernel_rfl) ?_ _
          clear SK
          go_wp2_with fail
          go_ret
          exact ⟨rfl, hx.trans (x3.trans (by assumption))⟩
      · as_aux_lemma =>
          go_enter Try.func30, Try.ntmps30
          go_wp2_with fail
          rw [← hW3]
          clear hW3
          (try clear c0_0 c0_1 c0_2 c0_3 c1_0 c1_1 c1_2 c1_3 c0_f c1_f c0_l c1_l); have mk := MK.out _ hx'; have c0_0 : _ = some _ := mk.1.cell 0; have c0_1 : _ = some _ := mk.1.cell 1; have c0_2 : _ = some _ := mk.1.cell 2; have c0_3 : _ = some _ := mk.1.cell 3; have c0_f := mk.1.free; have c0_l := mk.1.lt; have c1_0 : _ = some _ := mk.2.1.cell 0; have c1_1 : _ = some _ := mk.2.1.cell 1; have c1_2 : _ = some _ := mk.2.1.cell 2; have c1_3 : _ = some _ := mk.2.1.cell 3; have c1_f := mk.2.1.free; have c1_l := mk.2.1.lt; clear mk
          have SK : Hid (∀ w', Ext W3 w' → Ext W3 w' ∧ w'.cell? ⟨w.heap.size, 0, none⟩ = some (.int .u64 a.ul) ∧ w'.cell? ⟨w.heap.size, 1, none⟩ = some (.int .u64 a.uh) ∧ w'.cell? ⟨w.heap.size, 2, none⟩ = some (.int .i64 a.sl) ∧ w'.cell? ⟨w.heap.size, 3, none⟩ = some (.int .i64 a.sh) ∧ w'.cell? ⟨w.heap.size + 1, 0, none⟩ = some (.int .u64 b.ul) ∧ w'.cell? ⟨w.heap.size + 1, 1, none⟩ = some (.int .u64 b.uh) ∧ w'.cell? ⟨w.heap.size + 1, 2, none⟩ = some (.int .i64 b.sl) ∧ w'.cell? ⟨w.heap.size + 1, 3, none⟩ = some (.int .i64 b.sh)) := hide (fun w' h => ⟨h, (MK.out _ h).1.cell 0, (MK.out _ h).1.cell 1, (MK.out _ h).1.cell 2, (MK.out _ h).1.cell 3, (MK.out _ h).2.1.cell 0, (MK.out _ h).2.1.cell 1, (MK.out _ h).2.1.cell 2, (MK.out _ h).2.1.cell 3⟩)
          (try clear c0_0 c0_1 c0_2 c0_3 c1_0 c1_1 c1_2 c1_3 c0_f c1_f c0_l c1_l)
          refine wp_region_held_drew (S := (fun w' => Ext W3 w' ∧ w'.cell? ⟨w.heap.size, 0, none⟩ = some (.int .u64 a.ul) ∧ w'.cell? ⟨w.heap.size, 1, none⟩ = some (.int .u64 a.uh) ∧ w'.cell? ⟨w.heap.size, 2, none⟩ = some (.int .i64 a.sl) ∧ w'.cell? ⟨w.heap.size, 3, none⟩ = some (.int .i64 a.sh) ∧ w'.cell? ⟨w.heap.size + 1, 0, none⟩ = some (.int .u64 b.ul) ∧ w'.cell? ⟨w.heap.size + 1, 1, none⟩ = some (.int .u64 b.uh) ∧ w'.cell? ⟨w.heap.size + 1, 2, none⟩ = some (.int .i64 b.sl) ∧ w'.cell? ⟨w.heap.size + 1, 3, none⟩ = some (.int .i64 b.sh))) (by kernel_rfl) ?_ (fun hHeld => ?_)
          · (try dsimp only); (first | exact SK.out _ hx' | exact SK.out _ hx'.drew)
          refine take_run (i := 0) (d := (some 5)) (oi := _) (v := ?_) rfl rfl (by kernel_rfl) (by kernel_rfl) (by kernel_rfl) (fun _ _ _ h => h) (by kernel_rfl) ?_ (by assumption) ?_
          rotate_left 1
          · intro w hSw; (try dsimp only at hSw); go_simp; (try with_reducible rfl)
          try simp only [Act.put, List.setIfInBounds_toArray, List.set_cons_zero, List.set_cons_succ]
          refine wpAnyH_ready (rs := [1]) (by kernel_rfl) (by simp) ?_
          refine AllReadyH.cons (o := _) rfl (fun K hK => ?_) AllReadyH.nil
          go_simp
          (first | (go_at_call 16; have hq := And.left ‹Ext W3 _ ∧ _›; (with_reducible refine (b_may a _ H1.out W3 _ hq).mono ?_); rintro e w' ⟨rfl, hx'⟩) | (go_at_call 16; have hq := And.left ‹Ext W3 _ ∧ _›; (with_reducible refine (b_may b _ H2.out W3 _ hq).mono ?_); rintro e w' ⟨rfl, hx'⟩) | (go_at_call 28; have hq := And.left ‹Ext W3 _ ∧ _›; (with_reducible refine (b_joinl a b _ HJ.out W3 _ hq).mono ?_); rintro e w' ⟨rfl, hx'⟩))
          go_wp2_with fail
          refine hK.out _ _ ?_ (fun hHeld2 => ?_)
          · (try dsimp only); (first | exact SK.out _ hx' | exact SK.out _ hx'.drew)
          clear hK K hHeld
          have hHeld := hHeld2
          clear hHeld2
          try simp only [Act.put, List.setIfInBounds_toArray, List.set_cons_zero, List.set_cons_succ]
          refine take_run (i := 2) (d := (some 7)) (oi := _) (v := ?_) rfl rfl (by kernel_rfl) (by kernel_rfl) (by kernel_rfl) (fun _ _ _ h => h) (by kernel_rfl) ?_ (by assumption) ?_
          rotate_left 1
          · intro w hSw; (try dsimp only at hSw); go_simp; (try with_reducible rfl)
          try simp only [Act.put, List.setIfInBounds_toArray, List.set_cons_zero, List.set_cons_succ]
          refine take_run (i := 3) (d := (some 8)) (oi := _) (v := ?_) rfl rfl (by kernel_rfl) (by kernel_rfl) (by kernel_rfl) (fun _ _ _ h => h) (by kernel_rfl) ?_ (by assumption) ?_
          rotate_left 1
          · intro w hSw; (try dsimp only at hSw); go_simp; (try with_reducible rfl)
          try simp only [Act.put, List.setIfInBounds_toArray, List.set_cons_zero, List.set_cons_succ]
          refine wpAnyH_ready (rs := [4]) (by kernel_rfl) (by simp) ?_
          refine AllReadyH.cons (o := _) rfl (fun K hK => ?_) AllReadyH.nil
          go_simp
          (first | (go_at_call 16; have hq := And.left ‹Ext W3 _ ∧ _›; (with_reducible refine (b_may a _ H1.out W3 _ hq).mono ?_); rintro e w' ⟨rfl, hx'⟩) | (go_at_call 16; have hq := And.left ‹Ext W3 _ ∧ _›; (with_reducible refine (b_may b _ H2.out W3 _ hq).mono ?_); rintro e w' ⟨rfl, hx'⟩) | (go_at_call 28; have hq := And.left ‹Ext W3 _ ∧ _›; (with_reducible refine (b_joinl a b _ HJ.out W3 _ hq).mono ?_); rintro e w' ⟨rfl, hx'⟩))
          go_wp2_with fail
          refine hK.out _ _ ?_ (fun hHeld2 => ?_)
          · (try dsimp only); (first | exact SK.out _ hx' | exact SK.out _ hx'.drew)
          clear hK K hHeld
          have hHeld := hHeld2
          clear hHeld2
          try simp only [Act.put, List.setIfInBounds_toArray, List.set_cons_zero, List.set_cons_succ]
          refine take_run (i := 5) (d := (some 10)) (oi := _) (v := ?_) rfl rfl (by kernel_rfl) (by kernel_rfl) (by kernel_rfl) (fun _ _ _ h => h) (by kernel_rfl) ?_ (by assumption) ?_
          rotate_left 1
          · intro w hSw; (try dsimp only at hSw); go_simp; (try with_reducible rfl)
          try simp only [Act.put, List.setIfInBounds_toArray, List.set_cons_zero, List.set_cons_succ]
          refine take_run (i := 6) (d := (some 11)) (oi := _) (v := ?_) rfl rfl (by kernel_rfl) (by kernel_rfl) (by kernel_rfl) (fun _ _ _ h => h) (by kernel_rfl) ?_ (by assumption) ?_
          rotate_left 1
          · intro w hSw; (try dsimp only at hSw); go_simp; (try with_reducible rfl)
          try simp only [Act.put, List.setIfInBounds_toArray, List.set_cons_zero, List.set_cons_succ]
          refine take_run (i := 7) (d := (some 12)) (oi := _) (v := ?_) rfl rfl (by kernel_rfl) (by kernel_rfl) (by kernel_rfl) (fun _ _ _ h => h) (by kernel_rfl) ?_ (by assumption) ?_
          rotate_left 1
          · intro w hSw; (try dsimp only at hSw); go_simp; (try with_reducible rfl)
          try simp only [Act.put, List.setIfInBounds_toArray, List.set_cons_zero, List.set_cons_succ]
          refine take_run (i := 8) (d := (some 13)) (oi := _) (v := ?_) rfl rfl (by kernel_rfl) (by kernel_rfl) (by kernel_rfl) (fun _ _ _ h => h) (by kernel_rfl) ?_ (by assumption) ?_
          rotate_left 1
          · intro w hSw; (try dsimp only at hSw); go_simp; (try with_reducible rfl)
          try simp only [Act.put, List.setIfInBounds_toArray, List.set_cons_zero, List.set_cons_succ]
          refine take_run (i := 10) (d := (some 15)) (oi := _) (v := ?_) rfl rfl (by kernel_rfl) (by kernel_rfl) (by kernel_rfl) (fun _ _ _ h => h) (by kernel_rfl) ?_ (by assumption) ?_
          rotate_left 1
          · intro w hSw; (try dsimp only at hSw); go_simp; (try with_reducible rfl)
          try simp only [Act.put, List.setIfInBounds_toArray, List.set_cons_zero, List.set_cons_succ]
          refine wpAnyH_ready (rs := [9]) (by kernel_rfl) (by simp) ?_
          refine AllReadyH.cons (o := _) rfl (fun K hK => ?_) AllReadyH.nil
          go_simp
          (first | (go_at_call 16; have hq := And.left ‹Ext W3 _ ∧ _›; (with_reducible refine (b_may a _ H1.out W3 _ hq).mono ?_); rintro e w' ⟨rfl, hx'⟩) | (go_at_call 16; have hq := And.left ‹Ext W3 _ ∧ _›; (with_reducible refine (b_may b _ H2.out W3 _ hq).mono ?_); rintro e w' ⟨rfl, hx'⟩) | (go_at_call 28; have hq := And.left ‹Ext W3 _ ∧ _›; (with_reducible refine (b_joinl a b _ HJ.out W3 _ hq).mono ?_); rintro e w' ⟨rfl, hx'⟩))
          go_wp2_with fail
          refine hK.out _ _ ?_ (fun hHeld2 => ?_)
          · (try dsimp only); (first | exact SK.out _ hx' | exact SK.out _ hx'.drew)
          clear hK K hHeld
          have hHeld := hHeld2
          clear hHeld2
          try simp only [Act.put, List.setIfInBounds_toArray, List.set_cons_zero, List.set_cons_succ]
          refine take_run (i := 11) (d := (some 16)) (oi := _) (v := ?_) rfl rfl (by kernel_rfl) (by kernel_rfl) (by kernel_rfl) (fun _ _ _ h => h) (by kernel_rfl) ?_ (by assumption) ?_
          rotate_left 1
          · intro w hSw; (try dsimp only at hSw); go_simp; (try with_reducible rfl)
          try simp only [Act.put, List.setIfInBounds_toArray, List.set_cons_zero, List.set_cons_succ]
          refine take_run (i := 12) (d := (some 17)) (oi := _) (v := ?_) rfl rfl (by kernel_rfl) (by kernel_rfl) (by kernel_rfl) (fun _ _ _ h => h) (by kernel_rfl) ?_ (by assumption) ?_
          rotate_left 1
          · intro w hSw; (try dsimp only at hSw); go_simp; (try with_reducible rfl)
          try simp only [Act.put, List.setIfInBounds_toArray, List.set_cons_zero, List.set_cons_succ]
          refine take_run (i := 13) (d := (some 4)) (oi := _) (v := ?_) rfl rfl (by kernel_rfl) (by kernel_rfl) (by kernel_rfl) (fun _ _ _ h => h) (by kernel_rfl) ?_ (by assumption) ?_
          rotate_left 1
          · intro w hSw; (try dsimp only at hSw); go_simp; (try with_reducible rfl)
          try simp only [Act.put, List.setIfInBounds_toArray, List.set_cons_zero, List.set_cons_succ]
          refine wpAnyH_done (by kernel_rfl) ?_ _
          clear SK
          go_wp2_with fail
          go_ret
          exact ⟨rfl, hx.trans (x3.trans (by assumption))⟩
      · as_aux_lemma =>
          go_enter Try.func30, Try.ntmps30
          go_wp2_with fail
          rw [← hW3]
          clear hW3
          (try clear c0_0 c0_1 c0_2 c0_3 c1_0 c1_1 c1_2 c1_3 c0_f c1_f c0_l c1_l); have mk := MK.out _ hx'; have c0_0 : _ = some _ := mk.1.cell 0; have c0_1 : _ = some _ := mk.1.cell 1; have c0_2 : _ = some _ := mk.1.cell 2; have c0_3 : _ = some _ := mk.1.cell 3; have c0_f := mk.1.free; have c0_l := mk.1.lt; have c1_0 : _ = some _ := mk.2.1.cell 0; have c1_1 : _ = some _ := mk.2.1.cell 1; have c1_2 : _ = some _ := mk.2.1.cell 2; have c1_3 : _ = some _ := mk.2.1.cell 3; have c1_f := mk.2.1.free; have c1_l := mk.2.1.lt; clear mk
          have SK : Hid (∀ w', Ext W3 w' → Ext W3 w' ∧ w'.cell? ⟨w.heap.size, 0, none⟩ = some (.int .u64 a.ul) ∧ w'.cell? ⟨w.heap.size, 1, none⟩ = some (.int .u64 a.uh) ∧ w'.cell? ⟨w.heap.size, 2, none⟩ = some (.int .i64 a.sl) ∧ w'.cell? ⟨w.heap.size, 3, none⟩ = some (.int .i64 a.sh) ∧ w'.cell? ⟨w.heap.size + 1, 0, none⟩ = some (.int .u64 b.ul) ∧ w'.cell? ⟨w.heap.size + 1, 1, none⟩ = some (.int .u64 b.uh) ∧ w'.cell? ⟨w.heap.size + 1, 2, none⟩ = some (.int .i64 b.sl) ∧ w'.cell? ⟨w.heap.size + 1, 3, none⟩ = some (.int .i64 b.sh)) := hide (fun w' h => ⟨h, (MK.out _ h).1.cell 0, (MK.out _ h).1.cell 1, (MK.out _ h).1.cell 2, (MK.out _ h).1.cell 3, (MK.out _ h).2.1.cell 0, (MK.out _ h).2.1.cell 1, (MK.out _ h).2.1.cell 2, (MK.out _ h).2.1.cell 3⟩)
          (try clear c0_0 c0_1 c0_2 c0_3 c1_0 c1_1 c1_2 c1_3 c0_f c1_f c0_l c1_l)
          refine wp_region_held_drew (S := (fun w' => Ext W3 w' ∧ w'.cell? ⟨w.heap.size, 0, none⟩ = some (.int .u64 a.ul) ∧ w'.cell? ⟨w.heap.size, 1, none⟩ = some (.int .u64 a.uh) ∧ w'.cell? ⟨w.heap.size, 2, none⟩ = some (.int .i64 a.sl) ∧ w'.cell? ⟨w.heap.size, 3, none⟩ = some (.int .i64 a.sh) ∧ w'.cell? ⟨w.heap.size + 1, 0, none⟩ = some (.int .u64 b.ul) ∧ w'.cell? ⟨w.heap.size + 1, 1, none⟩ = some (.int .u64 b.uh) ∧ w'.cell? ⟨w.heap.size + 1, 2, none⟩ = some (.int .i64 b.sl) ∧ w'.cell? ⟨w.heap.size + 1, 3, none⟩ = some (.int .i64 b.sh))) (by kernel_rfl) ?_ (fun hHeld => ?_)
          · (try dsimp only); (first | exact SK.out _ hx' | exact SK.out _ hx'.drew)
          refine take_run (i := 0) (d := (some 5)) (oi := _) (v := ?_) rfl rfl (by kernel_rfl) (by kernel_rfl) (by kernel_rfl) (fun _ _ _ h => h) (by kernel_rfl) ?_ (by assumption) ?_
          rotate_left 1
          · intro w hSw; (try dsimp only at hSw); go_simp; (try with_reducible rfl)
          try simp only [Act.put, List.setIfInBounds_toArray, List.set_cons_zero, List.set_cons_succ]
          refine wpAnyH_ready (rs := [1]) (by kernel_rfl) (by simp) ?_
          refine AllReadyH.cons (o := _) rfl (fun K hK => ?_) AllReadyH.nil
          go_simp
          (first | (go_at_call 16; have hq := And.left ‹Ext W3 _ ∧ _›; (with_reducible refine (b_may a _ H1.out W3 _ hq).mono ?_); rintro e w' ⟨rfl, hx'⟩) | (go_at_call 16; have hq := And.left ‹Ext W3 _ ∧ _›; (with_reducible refine (b_may b _ H2.out W3 _ hq).mono ?_); rintro e w' ⟨rfl, hx'⟩) | (go_at_call 28; have hq := And.left ‹Ext W3 _ ∧ _›; (with_reducible refine (b_joinl a b _ HJ.out W3 _ hq).mono ?_); rintro e w' ⟨rfl, hx'⟩))
          go_wp2_with fail
          refine hK.out _ _ ?_ (fun hHeld2 => ?_)
          · (try dsimp only); (first | exact SK.out _ hx' | exact SK.out _ hx'.drew)
          clear hK K hHeld
          have hHeld := hHeld2
          clear hHeld2
          try simp only [Act.put, List.setIfInBounds_toArray, List.set_cons_zero, List.set_cons_succ]
          refine take_run (i := 2) (d := (some 7)) (oi := _) (v := ?_) rfl rfl (by kernel_rfl) (by kernel_rfl) (by kernel_rfl) (fun _ _ _ h => h) (by kernel_rfl) ?_ (by assumption) ?_
          rotate_left 1
          · intro w hSw; (try dsimp only at hSw); go_simp; (try with_reducible rfl)
          try simp only [Act.put, List.setIfInBounds_toArray, List.set_cons_zero, List.set_cons_succ]
          refine take_run (i := 3) (d := (some 8)) (oi := _) (v := ?_) rfl rfl (by kernel_rfl) (by kernel_rfl) (by kernel_rfl) (fun _ _ _ h => h) (by kernel_rfl) ?_ (by assumption) ?_
          rotate_left 1
          · intro w hSw; (try dsimp only at hSw); go_simp; (try with_reducible rfl)
          try simp only [Act.put, List.setIfInBounds_toArray, List.set_cons_zero, List.set_cons_succ]
          refine wpAnyH_ready (rs := [4]) (by kernel_rfl) (by simp) ?_
          refine AllReadyH.cons (o := _) rfl (fun K hK => ?_) AllReadyH.nil
          go_simp
          (first | (go_at_call 16; have hq := And.left ‹Ext W3 _ ∧ _›; (with_reducible refine (b_may a _ H1.out W3 _ hq).mono ?_); rintro e w' ⟨rfl, hx'⟩) | (go_at_call 16; have hq := And.left ‹Ext W3 _ ∧ _›; (with_reducible refine (b_may b _ H2.out W3 _ hq).mono ?_); rintro e w' ⟨rfl, hx'⟩) | (go_at_call 28; have hq := And.left ‹Ext W3 _ ∧ _›; (with_reducible refine (b_joinl a b _ HJ.out W3 _ hq).mono ?_); rintro e w' ⟨rfl, hx'⟩))
          go_wp2_with fail
          refine hK.out _ _ ?_ (fun hHeld2 => ?_)
          · (try dsimp only); (first | exact SK.out _ hx' | exact SK.out _ hx'.drew)
          clear hK K hHeld
          have hHeld := hHeld2
          clear hHeld2
          try simp only [Act.put, List.setIfInBounds_toArray, List.set_cons_zero, List.set_cons_succ]
          refine take_run (i := 5) (d := (some 10)) (oi := _) (v := ?_) rfl rfl (by kernel_rfl) (by kernel_rfl) (by kernel_rfl) (fun _ _ _ h => h) (by kernel_rfl) ?_ (by assumption) ?_
          rotate_left 1
          · intro w hSw; (try dsimp only at hSw); go_simp; (try with_reducible rfl)
          try simp only [Act.put, List.setIfInBounds_toArray, List.set_cons_zero, List.set_cons_succ]
          refine take_run (i := 6) (d := (some 11)) (oi := _) (v := ?_) rfl rfl (by kernel_rfl) (by kernel_rfl) (by kernel_rfl) (fun _ _ _ h => h) (by kernel_rfl) ?_ (by assumption) ?_
          rotate_left 1
          · intro w hSw; (try dsimp only at hSw); go_simp; (try with_reducible rfl)
          try simp only [Act.put, List.setIfInBounds_toArray, List.set_cons_zero, List.set_cons_succ]
          refine take_run (i := 7) (d := (some 12)) (oi := _) (v := ?_) rfl rfl (by kernel_rfl) (by kernel_rfl) (by kernel_rfl) (fun _ _ _ h => h) (by kernel_rfl) ?_ (by assumption) ?_
          rotate_left 1
          · intro w hSw; (try dsimp only at hSw); go_simp; (try with_reducible rfl)
          try simp only [Act.put, List.setIfInBounds_toArray, List.set_cons_zero, List.set_cons_succ]
          refine take_run (i := 8) (d := (some 13)) (oi := _) (v := ?_) rfl rfl (by kernel_rfl) (by kernel_rfl) (by kernel_rfl) (fun _ _ _ h => h) (by kernel_rfl) ?_ (by assumption) ?_
          rotate_left 1
          · intro w hSw; (try dsimp only at hSw); go_simp; (try with_reducible rfl)
          try simp only [Act.put, List.setIfInBounds_toArray, List.set_cons_zero, List.set_cons_succ]
          refine take_run (i := 10) (d := (some 15)) (oi := _) (v := ?_) rfl rfl (by kernel_rfl) (by kernel_rfl) (by kernel_rfl) (fun _ _ _ h => h) (by kernel_rfl) ?_ (by assumption) ?_
          rotate_left 1
          · intro w hSw; (try dsimp only at hSw); go_simp; (try with_reducible rfl)
          try simp only [Act.put, List.setIfInBounds_toArray, List.set_cons_zero, List.set_cons_succ]
          refine wpAnyH_ready (rs := [9]) (by kernel_rfl) (by simp) ?_
          refine AllReadyH.cons (o := _) rfl (fun K hK => ?_) AllReadyH.nil
          go_simp
          (first | (go_at_call 16; have hq := And.left ‹Ext W3 _ ∧ _›; (with_reducible refine (b_may a _ H1.out W3 _ hq).mono ?_); rintro e w' ⟨rfl, hx'⟩) | (go_at_call 16; have hq := And.left ‹Ext W3 _ ∧ _›; (with_reducible refine (b_may b _ H2.out W3 _ hq).mono ?_); rintro e w' ⟨rfl, hx'⟩) | (go_at_call 28; have hq := And.left ‹Ext W3 _ ∧ _›; (with_reducible refine (b_joinl a b _ HJ.out W3 _ hq).mono ?_); rintro e w' ⟨rfl, hx'⟩))
          go_wp2_with fail
          refine hK.out _ _ ?_ (fun hHeld2 => ?_)
          · (try dsimp only); (first | exact SK.out _ hx' | exact SK.out _ hx'.drew)
          clear hK K hHeld
          have hHeld := hHeld2
          clear hHeld2
          try simp only [Act.put, List.setIfInBounds_toArray, List.set_cons_zero, List.set_cons_succ]
          refine take_run (i := 11) (d := (some 16)) (oi := _) (v := ?_) rfl rfl (by kernel_rfl) (by kernel_rfl) (by kernel_rfl) (fun _ _ _ h => h) (by kernel_rfl) ?_ (by assumption) ?_
          rotate_left 1
          · intro w hSw; (try dsimp only at hSw); go_simp; (try with_reducible rfl)
          try simp only [Act.put, List.setIfInBounds_toArray, List.set_cons_zero, List.set_cons_succ]
          refine take_run (i := 12) (d := (some 17)) (oi := _) (v := ?_) rfl rfl (by kernel_rfl) (by kernel_rfl) (by kernel_rfl) (fun _ _ _ h => h) (by kernel_rfl) ?_ (by assumption) ?_
          rotate_left 1
          · intro w hSw; (try dsimp only at hSw); go_simp; (try with_reducible rfl)
          try simp only [Act.put, List.setIfInBounds_toArray, List.set_cons_zero, List.set_cons_succ]
          refine take_run (i := 13) (d := (some 4)) (oi := _) (v := ?_) rfl rfl (by kernel_rfl) (by kernel_rfl) (by kernel_rfl) (fun _ _ _ h => h) (by kernel_rfl) ?_ (by assumption) ?_
          rotate_left 1
          · intro w hSw; (try dsimp only at hSw); go_simp; (try with_reducible rfl)
          try simp only [Act.put, List.setIfInBounds_toArray, List.set_cons_zero, List.set_cons_succ]
          refine wpAnyH_done (by kernel_rfl) ?_ _
          clear SK
          go_wp2_with fail
          go_ret
          exact ⟨rfl, hx.trans (x3.trans (by assumption))⟩
end Go.Proofs.Ytcngfmhhaleoaaa
