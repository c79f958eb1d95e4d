/- The walk of known.In: a region with guards. -/
import Derived.Test.YtkoiaadhbgccaaaKnB
import Derived.Test.YtkoiaadhbgccaaaHeld
import Derived.Deep.RegionHeld3
import Derived.Deep.RegionWith
set_option linter.unusedVariables false
set_option linter.unusedSimpArgs false
namespace Go.Proofs.Ytkoiaadhbgccaaa
open Go.RowKit

set_option maxHeartbeats 8000000 in
theorem kin_any (a b : Kn) (W w : World) (hx : Ext W w) :
    Calls Try.prog 31 #[.agg #[.int .u64 a.v, .int .u64 a.m], .agg #[.int .u64 b.v, .int .u64 b.m]] w fun e w' => e = .returned (.bool (kin a b)) ∧ Ext W w' := by
  obtain ⟨W3, hW3⟩ : ∃ W3, W3 = ((w.alloc (.cells #[.int .u64 a.v, .int .u64 a.m] 48)).alloc (.cells #[.int .u64 b.v, .int .u64 b.m] 48)) := ⟨_, rfl⟩
  have x3 : Ext w W3 := by rw [hW3]; exact (((Ext.refl w).alloc _).alloc _)
  have MK := hide (fun w' (h : Ext W3 w') => new2 (hW3 ▸ h))
  have hx' : Ext W3 W3 := Ext.refl _
  have hc : kmay a = false ∨ (kmay a = true ∧ kmay b = false) ∨ (kmay a = true ∧ kmay b = true ∧ (bits .or .u64 a.m b.m == b.m) = false) ∨ (kmay a = true ∧ kmay b = true ∧ (bits .or .u64 a.m b.m == b.m) = true ∧ (bits .andNot .u64 a.v b.m == b.v) = true) ∨ (kmay a = true ∧ kmay b = true ∧ (bits .or .u64 a.m b.m == b.m) = true ∧ (bits .andNot .u64 a.v b.m == b.v) = false) := by
    cases kmay a <;> cases kmay b <;> cases (bits .or .u64 a.m b.m == b.m) <;> cases (bits .andNot .u64 a.v b.m == b.v) <;> simp
  have S1 : kmay a = false → kin a b = false := fun h => by simp only [kin, h, Bool.false_and]
  have S2 : kmay a = true → kmay b = false → kin a b = false := fun h h' => by simp only [kin, h, h', Bool.false_and, Bool.and_false]
  have S3 : kmay a = true → kmay b = true → (bits .or .u64 a.m b.m == b.m) = false → kin a b = false := fun h h' h'' => by simp only [kin, h, h', h'', Bool.false_and, Bool.and_false]
  have S4 : kmay a = true → kmay b = true → (bits .or .u64 a.m b.m == b.m) = true → kin a b = (bits .andNot .u64 a.v b.m == b.v) := fun h h' h'' => by simp only [kin, h, h', h'', Bool.true_and]
  have HS1 := hide S1
  have HS2 := hide S2
  have HS3 := hide S3
  have HS4 := hide S4
  clear S1 S2 S3 S4
  rcases hc with h1 | ⟨h1, h2⟩ | ⟨h1, h2, h3⟩ | ⟨h1, h2, h3, h4⟩ | ⟨h1, h2, h3, h4⟩
  · have SK := hide (fun w' (h : Ext W3 w') => (⟨h, (MK.out _ h).1.1, (MK.out _ h).1.2.1, (MK.out _ h).2.1.1, (MK.out _ h).2.1.2.1⟩ : Ext W3 w' ∧ w'.cell? ⟨w.heap.size, 0, none⟩ = some (.int .u64 a.v) ∧ w'.cell? ⟨w.heap.size, 1, none⟩ = some (.int .u64 a.m) ∧ w'.cell? ⟨w.heap.size + 1, 0, none⟩ = some (.int .u64 b.v) ∧ w'.cell? ⟨w.heap.size + 1, 1, none⟩ = some (.int .u64 b.m)))
    rw [HS1.out h1]
    go_enter Try.func31, Try.ntmps31
    go_wp2_with fail
    rw [← hW3]
    clear hW3
    (try clear p0 p1 pf q0 q1 qf sz sz0); obtain ⟨⟨p0, p1, pf⟩, ⟨q0, q1, qf⟩, sz⟩ := MK.out _ hx'; have sz0 := Nat.lt_of_succ_lt sz
    clear p0 p1 pf q0 q1 qf sz sz0
    refine wp_region_held_drew (S := (fun w' => Ext W3 w' ∧ w'.cell? ⟨w.heap.size, 0, none⟩ = some (.int .u64 a.v) ∧ w'.cell? ⟨w.heap.size, 1, none⟩ = some (.int .u64 a.m) ∧ w'.cell? ⟨w.heap.size + 1, 0, none⟩ = some (.int .u64 b.v) ∧ w'.cell? ⟨w.heap.size + 1, 1, none⟩ = some (.int .u64 b.m))) (by kernel_rfl) ?_ (fun hHeld => ?_)
    · (try dsimp only); (first | exact SK.out _ hx' | exact SK.out _ hx'.drew)
    refine take_run (i := 0) (d := (some 5)) (oi := _) (v := ?_) rfl rfl (by kernel_rfl) (by kernel_rfl) (by kernel_rfl) (fun _ _ _ h => h) (by kernel_rfl) ?_ (by assumption) ?_
    rotate_left 1
    · intro w hSw; (try dsimp only at hSw); go_simp; (try with_reducible rfl)
    try simp only [Act.put, List.setIfInBounds_toArray, List.set_cons_zero, List.set_cons_succ]
    refine wpAnyH_ready (rs := [1]) (by kernel_rfl) (by simp) ?_
    refine AllReadyH.cons (o := _) rfl (fun K hK => ?_) AllReadyH.nil
    go_simp
    (first | (go_at_call 27; have hq := And.left ‹Ext W3 _ ∧ _›; (with_reducible refine (kmay_any a W3 _ hq).mono ?_); rintro e w' ⟨rfl, hx'⟩) | (go_at_call 27; have hq := And.left ‹Ext W3 _ ∧ _›; (with_reducible refine (kmay_any b W3 _ hq).mono ?_); rintro e w' ⟨rfl, hx'⟩) | (go_at_call 61; have hq := And.left ‹Ext W3 _ ∧ _›; (with_reducible refine (kmasked_any a.v b.m W3 _ hq).mono ?_); rintro e w' ⟨rfl, hx'⟩))
    go_wp2_with fail
    refine hK.out _ _ ?_ (fun hHeld2 => ?_)
    · (try dsimp only); (first | exact SK.out _ hx' | exact SK.out _ hx'.drew)
    clear hK K hHeld
    have hHeld := hHeld2
    clear hHeld2
    try simp only [Act.put, List.setIfInBounds_toArray, List.set_cons_zero, List.set_cons_succ]
    refine take_run (i := 2) (d := (some 7)) (oi := _) (v := ?_) rfl rfl (by kernel_rfl) (by kernel_rfl) (by kernel_rfl) (fun _ _ _ h => h) (by kernel_rfl) ?_ (by assumption) ?_
    rotate_left 1
    · intro w hSw; (try dsimp only at hSw); go_simp; (try with_reducible rfl)
    try simp only [Act.put, List.setIfInBounds_toArray, List.set_cons_zero, List.set_cons_succ]
    refine take_skip (i := 3) (d := (some 8)) (oi := _) rfl rfl (by kernel_rfl) (by kernel_rfl) (by kernel_rfl) (fun _ _ _ h => h) (by kernel_rfl) (by assumption) ?_
    try simp only [Act.put, List.setIfInBounds_toArray, List.set_cons_zero, List.set_cons_succ]
    refine take_skip (i := 4) (d := (some 9)) (oi := _) rfl rfl (by kernel_rfl) (by kernel_rfl) (by kernel_rfl) (fun _ _ _ h => h) (by kernel_rfl) (by assumption) ?_
    try simp only [Act.put, List.setIfInBounds_toArray, List.set_cons_zero, List.set_cons_succ]
    refine take_run (i := 5) (d := (some 10)) (oi := _) (v := ?_) rfl rfl (by kernel_rfl) (by kernel_rfl) (by kernel_rfl) (fun _ _ _ h => h) (by kernel_rfl) ?_ (by assumption) ?_
    rotate_left 1
    · intro w hSw; (try dsimp only at hSw); go_simp; (try with_reducible rfl)
    try simp only [Act.put, List.setIfInBounds_toArray, List.set_cons_zero, List.set_cons_succ]
    refine take_run (i := 6) (d := (some 11)) (oi := _) (v := ?_) rfl rfl (by kernel_rfl) (by kernel_rfl) (by kernel_rfl) (fun _ _ _ h => h) (by kernel_rfl) ?_ (by assumption) ?_
    rotate_left 1
    · intro w hSw; (try dsimp only at hSw); go_simp; (try with_reducible rfl)
    try simp only [Act.put, List.setIfInBounds_toArray, List.set_cons_zero, List.set_cons_succ]
    refine take_skip (i := 7) (d := (some 12)) (oi := _) rfl rfl (by kernel_rfl) (by kernel_rfl) (by kernel_rfl) (fun _ _ _ h => h) (by kernel_rfl) (by assumption) ?_
    try simp only [Act.put, List.setIfInBounds_toArray, List.set_cons_zero, List.set_cons_succ]
    refine take_skip (i := 8) (d := (some 13)) (oi := _) rfl rfl (by kernel_rfl) (by kernel_rfl) (by kernel_rfl) (fun _ _ _ h => h) (by kernel_rfl) (by assumption) ?_
    try simp only [Act.put, List.setIfInBounds_toArray, List.set_cons_zero, List.set_cons_succ]
    refine take_skip (i := 9) (d := (some 14)) (oi := _) rfl rfl (by kernel_rfl) (by kernel_rfl) (by kernel_rfl) (fun _ _ _ h => h) (by kernel_rfl) (by assumption) ?_
    try simp only [Act.put, List.setIfInBounds_toArray, List.set_cons_zero, List.set_cons_succ]
    refine take_skip (i := 10) (d := (some 15)) (oi := _) rfl rfl (by kernel_rfl) (by kernel_rfl) (by kernel_rfl) (fun _ _ _ h => h) (by kernel_rfl) (by assumption) ?_
    try simp only [Act.put, List.setIfInBounds_toArray, List.set_cons_zero, List.set_cons_succ]
    refine take_skip (i := 11) (d := (some 16)) (oi := _) rfl rfl (by kernel_rfl) (by kernel_rfl) (by kernel_rfl) (fun _ _ _ h => h) (by kernel_rfl) (by assumption) ?_
    try simp only [Act.put, List.setIfInBounds_toArray, List.set_cons_zero, List.set_cons_succ]
    refine take_skip (i := 12) (d := (some 17)) (oi := _) rfl rfl (by kernel_rfl) (by kernel_rfl) (by kernel_rfl) (fun _ _ _ h => h) (by kernel_rfl) (by assumption) ?_
    try simp only [Act.put, List.setIfInBounds_toArray, List.set_cons_zero, List.set_cons_succ]
    refine take_skip (i := 13) (d := (some 18)) (oi := _) rfl rfl (by kernel_rfl) (by kernel_rfl) (by kernel_rfl) (fun _ _ _ h => h) (by kernel_rfl) (by assumption) ?_
    try simp only [Act.put, List.setIfInBounds_toArray, List.set_cons_zero, List.set_cons_succ]
    refine take_skip (i := 14) (d := (some 19)) (oi := _) rfl rfl (by kernel_rfl) (by kernel_rfl) (by kernel_rfl) (fun _ _ _ h => h) (by kernel_rfl) (by assumption) ?_
    try simp only [Act.put, List.setIfInBounds_toArray, List.set_cons_zero, List.set_cons_succ]
    refine take_run (i := 15) (d := (some 20)) (oi := _) (v := ?_) rfl rfl (by kernel_rfl) (by kernel_rfl) (by kernel_rfl) (fun _ _ _ h => h) (by kernel_rfl) ?_ (by assumption) ?_
    rotate_left 1
    · intro w hSw; (try dsimp only at hSw); go_simp; (try with_reducible rfl)
    try simp only [Act.put, List.setIfInBounds_toArray, List.set_cons_zero, List.set_cons_succ]
    refine take_run (i := 16) (d := (some 21)) (oi := _) (v := ?_) rfl rfl (by kernel_rfl) (by kernel_rfl) (by kernel_rfl) (fun _ _ _ h => h) (by kernel_rfl) ?_ (by assumption) ?_
    rotate_left 1
    · intro w hSw; (try dsimp only at hSw); go_simp; (try with_reducible rfl)
    try simp only [Act.put, List.setIfInBounds_toArray, List.set_cons_zero, List.set_cons_succ]
    refine take_skip (i := 17) (d := (some 22)) (oi := _) rfl rfl (by kernel_rfl) (by kernel_rfl) (by kernel_rfl) (fun _ _ _ h => h) (by kernel_rfl) (by assumption) ?_
    try simp only [Act.put, List.setIfInBounds_toArray, List.set_cons_zero, List.set_cons_succ]
    refine take_skip (i := 18) (d := (some 23)) (oi := _) rfl rfl (by kernel_rfl) (by kernel_rfl) (by kernel_rfl) (fun _ _ _ h => h) (by kernel_rfl) (by assumption) ?_
    try simp only [Act.put, List.setIfInBounds_toArray, List.set_cons_zero, List.set_cons_succ]
    refine take_skip (i := 19) (d := (some 24)) (oi := _) rfl rfl (by kernel_rfl) (by kernel_rfl) (by kernel_rfl) (fun _ _ _ h => h) (by kernel_rfl) (by assumption) ?_
    try simp only [Act.put, List.setIfInBounds_toArray, List.set_cons_zero, List.set_cons_succ]
    refine take_skip (i := 20) (d := (some 25)) (oi := _) rfl rfl (by kernel_rfl) (by kernel_rfl) (by kernel_rfl) (fun _ _ _ h => h) (by kernel_rfl) (by assumption) ?_
    try simp only [Act.put, List.setIfInBounds_toArray, List.set_cons_zero, List.set_cons_succ]
    refine take_skip (i := 21) (d := (some 26)) (oi := _) rfl rfl (by kernel_rfl) (by kernel_rfl) (by kernel_rfl) (fun _ _ _ h => h) (by kernel_rfl) (by assumption) ?_
    try simp only [Act.put, List.setIfInBounds_toArray, List.set_cons_zero, List.set_cons_succ]
    refine take_skip (i := 22) (d := (some 27)) (oi := _) rfl rfl (by kernel_rfl) (by kernel_rfl) (by kernel_rfl) (fun _ _ _ h => h) (by kernel_rfl) (by assumption) ?_
    try simp only [Act.put, List.setIfInBounds_toArray, List.set_cons_zero, List.set_cons_succ]
    refine take_skip (i := 23) (d := (some 28)) (oi := _) rfl rfl (by kernel_rfl) (by kernel_rfl) (by kernel_rfl) (fun _ _ _ h => h) (by kernel_rfl) (by assumption) ?_
    try simp only [Act.put, List.setIfInBounds_toArray, List.set_cons_zero, List.set_cons_succ]
    refine take_run (i := 24) (d := (some 29)) (oi := _) (v := ?_) rfl rfl (by kernel_rfl) (by kernel_rfl) (by kernel_rfl) (fun _ _ _ h => h) (by kernel_rfl) ?_ (by assumption) ?_
    rotate_left 1
    · intro w hSw; (try dsimp only at hSw); go_simp; (try with_reducible rfl)
    try simp only [Act.put, List.setIfInBounds_toArray, List.set_cons_zero, List.set_cons_succ]
    refine take_run (i := 25) (d := (some 4)) (oi := _) (v := ?_) rfl rfl (by kernel_rfl) (by kernel_rfl) (by kernel_rfl) (fun _ _ _ h => h) (by kernel_rfl) ?_ (by assumption) ?_
    rotate_left 1
    · intro w hSw; (try dsimp only at hSw); go_simp; (try with_reducible rfl)
    try simp only [Act.put, List.setIfInBounds_toArray, List.set_cons_zero, List.set_cons_succ]
    refine wpAnyH_done (by kernel_rfl) ?_ _
    go_wp2_with fail
    go_ret
    exact ⟨rfl, hx.trans (x3.trans hx')⟩
  · have SK := hide (fun w' (h : Ext W3 w') => (⟨h, (MK.out _ h).1.1, (MK.out _ h).1.2.1, (MK.out _ h).2.1.1, (MK.out _ h).2.1.2.1⟩ : Ext W3 w' ∧ w'.cell? ⟨w.heap.size, 0, none⟩ = some (.int .u64 a.v) ∧ w'.cell? ⟨w.heap.size, 1, none⟩ = some (.int .u64 a.m) ∧ w'.cell? ⟨w.heap.size + 1, 0, none⟩ = some (.int .u64 b.v) ∧ w'.cell? ⟨w.heap.size + 1, 1, none⟩ = some (.int .u64 b.m)))
    rw [HS2.out h1 h2]
    go_enter Try.func31, Try.ntmps31
    go_wp2_with fail
    rw [← hW3]
    clear hW3
    (try clear p0 p1 pf q0 q1 qf sz sz0); obtain ⟨⟨p0, p1, pf⟩, ⟨q0, q1, qf⟩, sz⟩ := MK.out _ hx'; have sz0 := Nat.lt_of_succ_lt sz
    clear p0 p1 pf q0 q1 qf sz sz0
    refine wp_region_held_drew (S := (fun w' => Ext W3 w' ∧ w'.cell? ⟨w.heap.size, 0, none⟩ = some (.int .u64 a.v) ∧ w'.cell? ⟨w.heap.size, 1, none⟩ = some (.int .u64 a.m) ∧ w'.cell? ⟨w.heap.size + 1, 0, none⟩ = some (.int .u64 b.v) ∧ w'.cell? ⟨w.heap.size + 1, 1, none⟩ = some (.int .u64 b.m))) (by kernel_rfl) ?_ (fun hHeld => ?_)
    · (try dsimp only); (first | exact SK.out _ hx' | exact SK.out _ hx'.drew)
    refine take_run (i := 0) (d := (some 5)) (oi := _) (v := ?_) rfl rfl (by kernel_rfl) (by kernel_rfl) (by kernel_rfl) (fun _ _ _ h => h) (by kernel_rfl) ?_ (by assumption) ?_
    rotate_left 1
    · intro w hSw; (try dsimp only at hSw); go_simp; (try with_reducible rfl)
    try simp only [Act.put, List.setIfInBounds_toArray, List.set_cons_zero, List.set_cons_succ]
    refine wpAnyH_ready (rs := [1]) (by kernel_rfl) (by simp) ?_
    refine AllReadyH.cons (o := _) rfl (fun K hK => ?_) AllReadyH.nil
    go_simp
    (first | (go_at_call 27; have hq := And.left ‹Ext W3 _ ∧ _›; (with_reducible refine (kmay_any a W3 _ hq).mono ?_); rintro e w' ⟨rfl, hx'⟩) | (go_at_call 27; have hq := And.left ‹Ext W3 _ ∧ _›; (with_reducible refine (kmay_any b W3 _ hq).mono ?_); rintro e w' ⟨rfl, hx'⟩) | (go_at_call 61; have hq := And.left ‹Ext W3 _ ∧ _›; (with_reducible refine (kmasked_any a.v b.m W3 _ hq).mono ?_); rintro e w' ⟨rfl, hx'⟩))
    go_wp2_with fail
    refine hK.out _ _ ?_ (fun hHeld2 => ?_)
    · (try dsimp only); (first | exact SK.out _ hx' | exact SK.out _ hx'.drew)
    clear hK K hHeld
    have hHeld := hHeld2
    clear hHeld2
    try simp only [Act.put, List.setIfInBounds_toArray, List.set_cons_zero, List.set_cons_succ]
    refine take_run (i := 2) (d := (some 7)) (oi := _) (v := ?_) rfl rfl (by kernel_rfl) (by kernel_rfl) (by kernel_rfl) (fun _ _ _ h => h) (by kernel_rfl) ?_ (by assumption) ?_
    rotate_left 1
    · intro w hSw; (try dsimp only at hSw); go_simp; (try with_reducible rfl)
    try simp only [Act.put, List.setIfInBounds_toArray, List.set_cons_zero, List.set_cons_succ]
    refine take_run (i := 3) (d := (some 8)) (oi := _) (v := ?_) rfl rfl (by kernel_rfl) (by kernel_rfl) (by kernel_rfl) (fun _ _ _ h => h) (by kernel_rfl) ?_ (by assumption) ?_
    rotate_left 1
    · intro w hSw; (try dsimp only at hSw); go_simp; (try with_reducible rfl)
    try simp only [Act.put, List.setIfInBounds_toArray, List.set_cons_zero, List.set_cons_succ]
    refine wpAnyH_ready (rs := [4]) (by kernel_rfl) (by simp) ?_
    refine AllReadyH.cons (o := _) rfl (fun K hK => ?_) AllReadyH.nil
    go_simp
    (first | (go_at_call 27; have hq := And.left ‹Ext W3 _ ∧ _›; (with_reducible refine (kmay_any a W3 _ hq).mono ?_); rintro e w' ⟨rfl, hx'⟩) | (go_at_call 27; have hq := And.left ‹Ext W3 _ ∧ _›; (with_reducible refine (kmay_any b W3 _ hq).mono ?_); rintro e w' ⟨rfl, hx'⟩) | (go_at_call 61; have hq := And.left ‹Ext W3 _ ∧ _›; (with_reducible refine (kmasked_any a.v b.m W3 _ hq).mono ?_); rintro e w' ⟨rfl, hx'⟩))
    go_wp2_with fail
    refine hK.out _ _ ?_ (fun hHeld2 => ?_)
    · (try dsimp only); (first | exact SK.out _ hx' | exact SK.out _ hx'.drew)
    clear hK K hHeld
    have hHeld := hHeld2
    clear hHeld2
    try simp only [Act.put, List.setIfInBounds_toArray, List.set_cons_zero, List.set_cons_succ]
    refine take_run (i := 5) (d := (some 10)) (oi := _) (v := ?_) rfl rfl (by kernel_rfl) (by kernel_rfl) (by kernel_rfl) (fun _ _ _ h => h) (by kernel_rfl) ?_ (by assumption) ?_
    rotate_left 1
    · intro w hSw; (try dsimp only at hSw); go_simp; (try with_reducible rfl)
    try simp only [Act.put, List.setIfInBounds_toArray, List.set_cons_zero, List.set_cons_succ]
    refine take_run (i := 6) (d := (some 11)) (oi := _) (v := ?_) rfl rfl (by kernel_rfl) (by kernel_rfl) (by kernel_rfl) (fun _ _ _ h => h) (by kernel_rfl) ?_ (by assumption) ?_
    rotate_left 1
    · intro w hSw; (try dsimp only at hSw); go_simp; (try with_reducible rfl)
    try simp only [Act.put, List.setIfInBounds_toArray, List.set_cons_zero, List.set_cons_succ]
    refine take_skip (i := 7) (d := (some 12)) (oi := _) rfl rfl (by kernel_rfl) (by kernel_rfl) (by kernel_rfl) (fun _ _ _ h => h) (by kernel_rfl) (by assumption) ?_
    try simp only [Act.put, List.setIfInBounds_toArray, List.set_cons_zero, List.set_cons_succ]
    refine take_skip (i := 8) (d := (some 13)) (oi := _) rfl rfl (by kernel_rfl) (by kernel_rfl) (by kernel_rfl) (fun _ _ _ h => h) (by kernel_rfl) (by assumption) ?_
    try simp only [Act.put, List.setIfInBounds_toArray, List.set_cons_zero, List.set_cons_succ]
    refine take_skip (i := 9) (d := (some 14)) (oi := _) rfl rfl (by kernel_rfl) (by kernel_rfl) (by kernel_rfl) (fun _ _ _ h => h) (by kernel_rfl) (by assumption) ?_
    try simp only [Act.put, List.setIfInBounds_toArray, List.set_cons_zero, List.set_cons_succ]
    refine take_skip (i := 10) (d := (some 15)) (oi := _) rfl rfl (by kernel_rfl) (by kernel_rfl) (by kernel_rfl) (fun _ _ _ h => h) (by kernel_rfl) (by assumption) ?_
    try simp only [Act.put, List.setIfInBounds_toArray, List.set_cons_zero, List.set_cons_succ]
    refine take_skip (i := 11) (d := (some 16)) (oi := _) rfl rfl (by kernel_rfl) (by kernel_rfl) (by kernel_rfl) (fun _ _ _ h => h) (by kernel_rfl) (by assumption) ?_
    try simp only [Act.put, List.setIfInBounds_toArray, List.set_cons_zero, List.set_cons_succ]
    refine take_skip (i := 12) (d := (some 17)) (oi := _) rfl rfl (by kernel_rfl) (by kernel_rfl) (by kernel_rfl) (fun _ _ _ h => h) (by kernel_rfl) (by assumption) ?_
    try simp only [Act.put, List.setIfInBounds_toArray, List.set_cons_zero, List.set_cons_succ]
    refine take_skip (i := 13) (d := (some 18)) (oi := _) rfl rfl (by kernel_rfl) (by kernel_rfl) (by kernel_rfl) (fun _ _ _ h => h) (by kernel_rfl) (by assumption) ?_
    try simp only [Act.put, List.setIfInBounds_toArray, List.set_cons_zero, List.set_cons_succ]
    refine take_skip (i := 14) (d := (some 19)) (oi := _) rfl rfl (by kernel_rfl) (by kernel_rfl) (by kernel_rfl) (fun _ _ _ h => h) (by kernel_rfl) (by assumption) ?_
    try simp only [Act.put, List.setIfInBounds_toArray, List.set_cons_zero, List.set_cons_succ]
    refine take_run (i := 15) (d := (some 20)) (oi := _) (v := ?_) rfl rfl (by kernel_rfl) (by kernel_rfl) (by kernel_rfl) (fun _ _ _ h => h) (by kernel_rfl) ?_ (by assumption) ?_
    rotate_left 1
    · intro w hSw; (try dsimp only at hSw); go_simp; (try with_reducible rfl)
    try simp only [Act.put, List.setIfInBounds_toArray, List.set_cons_zero, List.set_cons_succ]
    refine take_run (i := 16) (d := (some 21)) (oi := _) (v := ?_) rfl rfl (by kernel_rfl) (by kernel_rfl) (by kernel_rfl) (fun _ _ _ h => h) (by kernel_rfl) ?_ (by assumption) ?_
    rotate_left 1
    · intro w hSw; (try dsimp only at hSw); go_simp; (try with_reducible rfl)
    try simp only [Act.put, List.setIfInBounds_toArray, List.set_cons_zero, List.set_cons_succ]
    refine take_skip (i := 17) (d := (some 22)) (oi := _) rfl rfl (by kernel_rfl) (by kernel_rfl) (by kernel_rfl) (fun _ _ _ h => h) (by kernel_rfl) (by assumption) ?_
    try simp only [Act.put, List.setIfInBounds_toArray, List.set_cons_zero, List.set_cons_succ]
    refine take_skip (i := 18) (d := (some 23)) (oi := _) rfl rfl (by kernel_rfl) (by kernel_rfl) (by kernel_rfl) (fun _ _ _ h => h) (by kernel_rfl) (by assumption) ?_
    try simp only [Act.put, List.setIfInBounds_toArray, List.set_cons_zero, List.set_cons_succ]
    refine take_skip (i := 19) (d := (some 24)) (oi := _) rfl rfl (by kernel_rfl) (by kernel_rfl) (by kernel_rfl) (fun _ _ _ h => h) (by kernel_rfl) (by assumption) ?_
    try simp only [Act.put, List.setIfInBounds_toArray, List.set_cons_zero, List.set_cons_succ]
    refine take_skip (i := 20) (d := (some 25)) (oi := _) rfl rfl (by kernel_rfl) (by kernel_rfl) (by kernel_rfl) (fun _ _ _ h => h) (by kernel_rfl) (by assumption) ?_
    try simp only [Act.put, List.setIfInBounds_toArray, List.set_cons_zero, List.set_cons_succ]
    refine take_skip (i := 21) (d := (some 26)) (oi := _) rfl rfl (by kernel_rfl) (by kernel_rfl) (by kernel_rfl) (fun _ _ _ h => h) (by kernel_rfl) (by assumption) ?_
    try simp only [Act.put, List.setIfInBounds_toArray, List.set_cons_zero, List.set_cons_succ]
    refine take_skip (i := 22) (d := (some 27)) (oi := _) rfl rfl (by kernel_rfl) (by kernel_rfl) (by kernel_rfl) (fun _ _ _ h => h) (by kernel_rfl) (by assumption) ?_
    try simp only [Act.put, List.setIfInBounds_toArray, List.set_cons_zero, List.set_cons_succ]
    refine take_skip (i := 23) (d := (some 28)) (oi := _) rfl rfl (by kernel_rfl) (by kernel_rfl) (by kernel_rfl) (fun _ _ _ h => h) (by kernel_rfl) (by assumption) ?_
    try simp only [Act.put, List.setIfInBounds_toArray, List.set_cons_zero, List.set_cons_succ]
    refine take_run (i := 24) (d := (some 29)) (oi := _) (v := ?_) rfl rfl (by kernel_rfl) (by kernel_rfl) (by kernel_rfl) (fun _ _ _ h => h) (by kernel_rfl) ?_ (by assumption) ?_
    rotate_left 1
    · intro w hSw; (try dsimp only at hSw); go_simp; (try with_reducible rfl)
    try simp only [Act.put, List.setIfInBounds_toArray, List.set_cons_zero, List.set_cons_succ]
    refine take_run (i := 25) (d := (some 4)) (oi := _) (v := ?_) rfl rfl (by kernel_rfl) (by kernel_rfl) (by kernel_rfl) (fun _ _ _ h => h) (by kernel_rfl) ?_ (by assumption) ?_
    rotate_left 1
    · intro w hSw; (try dsimp only at hSw); go_simp; (try with_reducible rfl)
    try simp only [Act.put, List.setIfInBounds_toArray, List.set_cons_zero, List.set_cons_succ]
    refine wpAnyH_done (by kernel_rfl) ?_ _
    go_wp2_with fail
    go_ret
    exact ⟨rfl, hx.trans (x3.trans hx')⟩
  · have SK := hide (fun w' (h : Ext W3 w') => (⟨h, (MK.out _ h).1.1, (MK.out _ h).1.2.1, (MK.out _ h).2.1.1, (MK.out _ h).2.1.2.1⟩ : Ext W3 w' ∧ w'.cell? ⟨w.heap.size, 0, none⟩ = some (.int .u64 a.v) ∧ w'.cell? ⟨w.heap.size, 1, none⟩ = some (.int .u64 a.m) ∧ w'.cell? ⟨w.heap.size + 1, 0, none⟩ = some (.int .u64 b.v) ∧ w'.cell? ⟨w.heap.size + 1, 1, none⟩ = some (.int .u64 b.m)))
    rw [HS3.out h1 h2 h3]
    go_enter Try.func31, Try.ntmps31
    go_wp2_with fail
    rw [← hW3]
    clear hW3
    (try clear p0 p1 pf q0 q1 qf sz sz0); obtain ⟨⟨p0, p1, pf⟩, ⟨q0, q1, qf⟩, sz⟩ := MK.out _ hx'; have sz0 := Nat.lt_of_succ_lt sz
    clear p0 p1 pf q0 q1 qf sz sz0
    refine wp_region_held_drew (S := (fun w' => Ext W3 w' ∧ w'.cell? ⟨w.heap.size, 0, none⟩ = some (.int .u64 a.v) ∧ w'.cell? ⟨w.heap.size, 1, none⟩ = some (.int .u64 a.m) ∧ w'.cell? ⟨w.heap.size + 1, 0, none⟩ = some (.int .u64 b.v) ∧ w'.cell? ⟨w.heap.size + 1, 1, none⟩ = some (.int .u64 b.m))) (by kernel_rfl) ?_ (fun hHeld => ?_)
    · (try dsimp only); (first | exact SK.out _ hx' | exact SK.out _ hx'.drew)
    refine take_run (i := 0) (d := (some 5)) (oi := _) (v := ?_) rfl rfl (by kernel_rfl) (by kernel_rfl) (by kernel_rfl) (fun _ _ _ h => h) (by kernel_rfl) ?_ (by assumption) ?_
    rotate_left 1
    · intro w hSw; (try dsimp only at hSw); go_simp; (try with_reducible rfl)
    try simp only [Act.put, List.setIfInBounds_toArray, List.set_cons_zero, List.set_cons_succ]
    refine wpAnyH_ready (rs := [1]) (by kernel_rfl) (by simp) ?_
    refine AllReadyH.cons (o := _) rfl (fun K hK => ?_) AllReadyH.nil
    go_simp
    (first | (go_at_call 27; have hq := And.left ‹Ext W3 _ ∧ _›; (with_reducible refine (kmay_any a W3 _ hq).mono ?_); rintro e w' ⟨rfl, hx'⟩) | (go_at_call 27; have hq := And.left ‹Ext W3 _ ∧ _›; (with_reducible refine (kmay_any b W3 _ hq).mono ?_); rintro e w' ⟨rfl, hx'⟩) | (go_at_call 61; have hq := And.left ‹Ext W3 _ ∧ _›; (with_reducible refine (kmasked_any a.v b.m W3 _ hq).mono ?_); rintro e w' ⟨rfl, hx'⟩))
    go_wp2_with fail
    refine hK.out _ _ ?_ (fun hHeld2 => ?_)
    · (try dsimp only); (first | exact SK.out _ hx' | exact SK.out _ hx'.drew)
    clear hK K hHeld
    have hHeld := hHeld2
    clear hHeld2
    try simp only [Act.put, List.setIfInBounds_toArray, List.set_cons_zero, List.set_cons_succ]
    refine take_run (i := 2) (d := (some 7)) (oi := _) (v := ?_) rfl rfl (by kernel_rfl) (by kernel_rfl) (by kernel_rfl) (fun _ _ _ h => h) (by kernel_rfl) ?_ (by assumption) ?_
    rotate_left 1
    · intro w hSw; (try dsimp only at hSw); go_simp; (try with_reducible rfl)
    try simp only [Act.put, List.setIfInBounds_toArray, List.set_cons_zero, List.set_cons_succ]
    refine take_run (i := 3) (d := (some 8)) (oi := _) (v := ?_) rfl rfl (by kernel_rfl) (by kernel_rfl) (by kernel_rfl) (fun _ _ _ h => h) (by kernel_rfl) ?_ (by assumption) ?_
    rotate_left 1
    · intro w hSw; (try dsimp only at hSw); go_simp; (try with_reducible rfl)
    try simp only [Act.put, List.setIfInBounds_toArray, List.set_cons_zero, List.set_cons_succ]
    refine wpAnyH_ready (rs := [4]) (by kernel_rfl) (by simp) ?_
    refine AllReadyH.cons (o := _) rfl (fun K hK => ?_) AllReadyH.nil
    go_simp
    (first | (go_at_call 27; have hq := And.left ‹Ext W3 _ ∧ _›; (with_reducible refine (kmay_any a W3 _ hq).mono ?_); rintro e w' ⟨rfl, hx'⟩) | (go_at_call 27; have hq := And.left ‹Ext W3 _ ∧ _›; (with_reducible refine (kmay_any b W3 _ hq).mono ?_); rintro e w' ⟨rfl, hx'⟩) | (go_at_call 61; have hq := And.left ‹Ext W3 _ ∧ _›; (with_reducible refine (kmasked_any a.v b.m W3 _ hq).mono ?_); rintro e w' ⟨rfl, hx'⟩))
    go_wp2_with fail
    refine hK.out _ _ ?_ (fun hHeld2 => ?_)
    · (try dsimp only); (first | exact SK.out _ hx' | exact SK.out _ hx'.drew)
    clear hK K hHeld
    have hHeld := hHeld2
    clear hHeld2
    try simp only [Act.put, List.setIfInBounds_toArray, List.set_cons_zero, List.set_cons_succ]
    refine take_run (i := 5) (d := (some 10)) (oi := _) (v := ?_) rfl rfl (by kernel_rfl) (by kernel_rfl) (by kernel_rfl) (fun _ _ _ h => h) (by kernel_rfl) ?_ (by assumption) ?_
    rotate_left 1
    · intro w hSw; (try dsimp only at hSw); go_simp; (try with_reducible rfl)
    try simp only [Act.put, List.setIfInBounds_toArray, List.set_cons_zero, List.set_cons_succ]
    refine take_run (i := 6) (d := (some 11)) (oi := _) (v := ?_) rfl rfl (by kernel_rfl) (by kernel_rfl) (by kernel_rfl) (fun _ _ _ h => h) (by kernel_rfl) ?_ (by assumption) ?_
    rotate_left 1
    · intro w hSw; (try dsimp only at hSw); go_simp; (try with_reducible rfl)
    try simp only [Act.put, List.setIfInBounds_toArray, List.set_cons_zero, List.set_cons_succ]
    refine take_run (i := 7) (d := (some 12)) (oi := _) (v := ?_) rfl rfl (by kernel_rfl) (by kernel_rfl) (by kernel_rfl) (fun _ _ _ h => h) (by kernel_rfl) ?_ (by assumption) ?_
    rotate_left 1
    · intro w hSw; (try dsimp only at hSw); go_simp; (try with_reducible rfl)
    try simp only [Act.put, List.setIfInBounds_toArray, List.set_cons_zero, List.set_cons_succ]
    refine take_run (i := 8) (d := (some 13)) (oi := _) (v := ?_) rfl rfl (by kernel_rfl) (by kernel_rfl) (by kernel_rfl) (fun _ _ _ h => h) (by kernel_rfl) ?_ (by assumption) ?_
    rotate_left 1
    · intro w hSw; (try dsimp only at hSw); go_simp; (try with_reducible rfl)
    try simp only [Act.put, List.setIfInBounds_toArray, List.set_cons_zero, List.set_cons_succ]
    refine take_run (i := 9) (d := (some 14)) (oi := _) (v := ?_) rfl rfl (by kernel_rfl) (by kernel_rfl) (by kernel_rfl) (fun _ _ _ h => h) (by kernel_rfl) ?_ (by assumption) ?_
    rotate_left 1
    · intro w hSw; (try dsimp only at hSw); go_simp; (try with_reducible rfl)
    try simp only [Act.put, List.setIfInBounds_toArray, List.set_cons_zero, List.set_cons_succ]
    refine take_run (i := 10) (d := (some 15)) (oi := _) (v := ?_) rfl rfl (by kernel_rfl) (by kernel_rfl) (by kernel_rfl) (fun _ _ _ h => h) (by kernel_rfl) ?_ (by assumption) ?_
    rotate_left 1
    · intro w hSw; (try dsimp only at hSw); go_simp; (try with_reducible rfl)
    try simp only [Act.put, List.setIfInBounds_toArray, List.set_cons_zero, List.set_cons_succ]
    refine take_run (i := 11) (d := (some 16)) (oi := _) (v := ?_) rfl rfl (by kernel_rfl) (by kernel_rfl) (by kernel_rfl) (fun _ _ _ h => h) (by kernel_rfl) ?_ (by assumption) ?_
    rotate_left 1
    · intro w hSw; (try dsimp only at hSw); go_simp; (try with_reducible rfl)
    try simp only [Act.put, List.setIfInBounds_toArray, List.set_cons_zero, List.set_cons_succ]
    refine take_run (i := 12) (d := (some 17)) (oi := _) (v := ?_) rfl rfl (by kernel_rfl) (by kernel_rfl) (by kernel_rfl) (fun _ _ _ h => h) (by kernel_rfl) ?_ (by assumption) ?_
    rotate_left 1
    · intro w hSw; (try dsimp only at hSw); go_simp; (try with_reducible rfl)
    try simp only [Act.put, List.setIfInBounds_toArray, List.set_cons_zero, List.set_cons_succ]
    refine take_run (i := 13) (d := (some 18)) (oi := _) (v := ?_) rfl rfl (by kernel_rfl) (by kernel_rfl) (by kernel_rfl) (fun _ _ _ h => h) (by kernel_rfl) ?_ (by assumption) ?_
    rotate_left 1
    · intro w hSw; (try dsimp only at hSw); go_simp; (try with_reducible rfl)
    try simp only [Act.put, List.setIfInBounds_toArray, List.set_cons_zero, List.set_cons_succ]
    refine take_run (i := 14) (d := (some 19)) (oi := _) (v := ?_) rfl rfl (by kernel_rfl) (by kernel_rfl) (by kernel_rfl) (fun _ _ _ h => h) (by kernel_rfl) ?_ (by assumption) ?_
    rotate_left 1
    · intro w hSw; (try dsimp only at hSw); go_simp; (try with_reducible rfl)
    try simp only [Act.put, List.setIfInBounds_toArray, List.set_cons_zero, List.set_cons_succ]
    refine take_run (i := 15) (d := (some 20)) (oi := _) (v := ?_) rfl rfl (by kernel_rfl) (by kernel_rfl) (by kernel_rfl) (fun _ _ _ h => h) (by kernel_rfl) ?_ (by assumption) ?_
    rotate_left 1
    · intro w hSw; (try dsimp only at hSw); go_simp; (try with_reducible rfl)
    try simp only [Act.put, List.setIfInBounds_toArray, List.set_cons_zero, List.set_cons_succ]
    refine take_run (i := 16) (d := (some 21)) (oi := _) (v := ?_) rfl rfl (by kernel_rfl) (by kernel_rfl) (by kernel_rfl) (fun _ _ _ h => h) (by kernel_rfl) ?_ (by assumption) ?_
    rotate_left 1
    · intro w hSw; (try dsimp only at hSw); go_simp; (try with_reducible rfl)
    try simp only [Act.put, List.setIfInBounds_toArray, List.set_cons_zero, List.set_cons_succ]
    refine take_skip (i := 17) (d := (some 22)) (oi := _) rfl rfl (by kernel_rfl) (by kernel_rfl) (by kernel_rfl) (fun _ _ _ h => h) (by kernel_rfl) (by assumption) ?_
    try simp only [Act.put, List.setIfInBounds_toArray, List.set_cons_zero, List.set_cons_succ]
    refine take_skip (i := 18) (d := (some 23)) (oi := _) rfl rfl (by kernel_rfl) (by kernel_rfl) (by kernel_rfl) (fun _ _ _ h => h) (by kernel_rfl) (by assumption) ?_
    try simp only [Act.put, List.setIfInBounds_toArray, List.set_cons_zero, List.set_cons_succ]
    refine take_skip (i := 19) (d := (some 24)) (oi := _) rfl rfl (by kernel_rfl) (by kernel_rfl) (by kernel_rfl) (fun _ _ _ h => h) (by kernel_rfl) (by assumption) ?_
    try simp only [Act.put, List.setIfInBounds_toArray, List.set_cons_zero, List.set_cons_succ]
    refine take_skip (i := 20) (d := (some 25)) (oi := _) rfl rfl (by kernel_rfl) (by kernel_rfl) (by kernel_rfl) (fun _ _ _ h => h) (by kernel_rfl) (by assumption) ?_
    try simp only [Act.put, List.setIfInBounds_toArray, List.set_cons_zero, List.set_cons_succ]
    refine take_skip (i := 21) (d := (some 26)) (oi := _) rfl rfl (by kernel_rfl) (by kernel_rfl) (by kernel_rfl) (fun _ _ _ h => h) (by kernel_rfl) (by assumption) ?_
    try simp only [Act.put, List.setIfInBounds_toArray, List.set_cons_zero, List.set_cons_succ]
    refine take_skip (i := 22) (d := (some 27)) (oi := _) rfl rfl (by kernel_rfl) (by kernel_rfl) (by kernel_rfl) (fun _ _ _ h => h) (by kernel_rfl) (by assumption) ?_
    try simp only [Act.put, List.setIfInBounds_toArray, List.set_cons_zero, List.set_cons_succ]
    refine take_skip (i := 23) (d := (some 28)) (oi := _) rfl rfl (by kernel_rfl) (by kernel_rfl) (by kernel_rfl) (fun _ _ _ h => h) (by kernel_rfl) (by assumption) ?_
    try simp only [Act.put, List.setIfInBounds_toArray, List.set_cons_zero, List.set_cons_succ]
    refine take_run (i := 24) (d := (some 29)) (oi := _) (v := ?_) rfl rfl (by kernel_rfl) (by kernel_rfl) (by kernel_rfl) (fun _ _ _ h => h) (by kernel_rfl) ?_ (by assumption) ?_
    rotate_left 1
    · intro w hSw; (try dsimp only at hSw); go_simp; (try with_reducible rfl)
    try simp only [Act.put, List.setIfInBounds_toArray, List.set_cons_zero, List.set_cons_succ]
    refine take_run (i := 25) (d := (some 4)) (oi := _) (v := ?_) rfl rfl (by kernel_rfl) (by kernel_rfl) (by kernel_rfl) (fun _ _ _ h => h) (by kernel_rfl) ?_ (by assumption) ?_
    rotate_left 1
    · intro w hSw; (try dsimp only at hSw); go_simp; (try with_reducible rfl)
    try simp only [Act.put, List.setIfInBounds_toArray, List.set_cons_zero, List.set_cons_succ]
    refine wpAnyH_done (by kernel_rfl) ?_ _
    go_wp2_with fail
    go_ret
    exact ⟨rfl, hx.trans (x3.trans hx')⟩
  · have SK := hide (fun w' (h : Ext W3 w') => (⟨h, (MK.out _ h).1.1, (MK.out _ h).1.2.1, (MK.out _ h).2.1.1, (MK.out _ h).2.1.2.1⟩ : Ext W3 w' ∧ w'.cell? ⟨w.heap.size, 0, none⟩ = some (.int .u64 a.v) ∧ w'.cell? ⟨w.heap.size, 1, none⟩ = some (.int .u64 a.m) ∧ w'.cell? ⟨w.heap.size + 1, 0, none⟩ = some (.int .u64 b.v) ∧ w'.cell? ⟨w.heap.size + 1, 1, none⟩ = some (.int .u64 b.m)))
    have hm : (kmask a.v b.m).m = b.m := rfl
    have hv : (kmask a.v b.m).v = b.v := by simpa [kmask] using h4
    rw [HS4.out h1 h2 h3, h4]
    clear h4
    go_enter Try.func31, Try.ntmps31
    go_wp2_with fail
    rw [← hW3]
    clear hW3
    (try clear p0 p1 pf q0 q1 qf sz sz0); obtain ⟨⟨p0, p1, pf⟩, ⟨q0, q1, qf⟩, sz⟩ := MK.out _ hx'; have sz0 := Nat.lt_of_succ_lt sz
    clear p0 p1 pf q0 q1 qf sz sz0
    refine wp_region_held_drew (S := (fun w' => Ext W3 w' ∧ w'.cell? ⟨w.heap.size, 0, none⟩ = some (.int .u64 a.v) ∧ w'.cell? ⟨w.heap.size, 1, none⟩ = some (.int .u64 a.m) ∧ w'.cell? ⟨w.heap.size + 1, 0, none⟩ = some (.int .u64 b.v) ∧ w'.cell? ⟨w.heap.size + 1, 1, none⟩ = some (.int .u64 b.m))) (by kernel_rfl) ?_ (fun hHeld => ?_)
    · (try dsimp only); (first | exact SK.out _ hx' | exact SK.out _ hx'.drew)
    refine take_run (i := 0) (d := (some 5)) (oi := _) (v := ?_) rfl rfl (by kernel_rfl) (by kernel_rfl) (by kernel_rfl) (fun _ _ _ h => h) (by kernel_rfl) ?_ (by assumption) ?_
    rotate_left 1
    · intro w hSw; (try dsimp only at hSw); go_simp; (try with_reducible rfl)
    try simp only [Act.put, List.setIfInBounds_toArray, List.set_cons_zero, List.set_cons_succ]
    refine wpAnyH_ready (rs := [1]) (by kernel_rfl) (by simp) ?_
    refine AllReadyH.cons (o := _) rfl (fun K hK => ?_) AllReadyH.nil
    go_simp
    (first | (go_at_call 27; have hq := And.left ‹Ext W3 _ ∧ _›; (with_reducible refine (kmay_any a W3 _ hq).mono ?_); rintro e w' ⟨rfl, hx'⟩) | (go_at_call 27; have hq := And.left ‹Ext W3 _ ∧ _›; (with_reducible refine (kmay_any b W3 _ hq).mono ?_); rintro e w' ⟨rfl, hx'⟩) | (go_at_call 61; have hq := And.left ‹Ext W3 _ ∧ _›; (with_reducible refine (kmasked_any a.v b.m W3 _ hq).mono ?_); rintro e w' ⟨rfl, hx'⟩))
    go_wp2_with fail
    refine hK.out _ _ ?_ (fun hHeld2 => ?_)
    · (try dsimp only); (first | exact SK.out _ hx' | exact SK.out _ hx'.drew)
    clear hK K hHeld
    have hHeld := hHeld2
    clear hHeld2
    try simp only [Act.put, List.setIfInBounds_toArray, List.set_cons_zero, List.set_cons_succ]
    refine take_run (i := 2) (d := (some 7)) (oi := _) (v := ?_) rfl rfl (by kernel_rfl) (by kernel_rfl) (by kernel_rfl) (fun _ _ _ h => h) (by kernel_rfl) ?_ (by assumption) ?_
    rotate_left 1
    · intro w hSw; (try dsimp only at hSw); go_simp; (try with_reducible rfl)
    try simp only [Act.put, List.setIfInBounds_toArray, List.set_cons_zero, List.set_cons_succ]
    refine take_run (i := 3) (d := (some 8)) (oi := _) (v := ?_) rfl rfl (by kernel_rfl) (by kernel_rfl) (by kernel_rfl) (fun _ _ _ h => h) (by kernel_rfl) ?_ (by assumption) ?_
    rotate_left 1
    · intro w hSw; (try dsimp only at hSw); go_simp; (try with_reducible rfl)
    try simp only [Act.put, List.setIfInBounds_toArray, List.set_cons_zero, List.set_cons_succ]
    refine wpAnyH_ready (rs := [4]) (by kernel_rfl) (by simp) ?_
    refine AllReadyH.cons (o := _) rfl (fun K hK => ?_) AllReadyH.nil
    go_simp
    (first | (go_at_call 27; have hq := And.left ‹Ext W3 _ ∧ _›; (with_reducible refine (kmay_any a W3 _ hq).mono ?_); rintro e w' ⟨rfl, hx'⟩) | (go_at_call 27; have hq := And.left ‹Ext W3 _ ∧ _›; (with_reducible refine (kmay_any b W3 _ hq).mono ?_); rintro e w' ⟨rfl, hx'⟩) | (go_at_call 61; have hq := And.left ‹Ext W3 _ ∧ _›; (with_reducible refine (kmasked_any a.v b.m W3 _ hq).mono ?_); rintro e w' ⟨rfl, hx'⟩))
    go_wp2_with fail
    refine hK.out _ _ ?_ (fun hHeld2 => ?_)
    · (try dsimp only); (first | exact SK.out _ hx' | exact SK.out _ hx'.drew)
    clear hK K hHeld
    have hHeld := hHeld2
    clear hHeld2
    try simp only [Act.put, List.setIfInBounds_toArray, List.set_cons_zero, List.set_cons_succ]
    refine take_run (i := 5) (d := (some 10)) (oi := _) (v := ?_) rfl rfl (by kernel_rfl) (by kernel_rfl) (by kernel_rfl) (fun _ _ _ h => h) (by kernel_rfl) ?_ (by assumption) ?_
    rotate_left 1
    · intro w hSw; (try dsimp only at hSw); go_simp; (try with_reducible rfl)
    try simp only [Act.put, List.setIfInBounds_toArray, List.set_cons_zero, List.set_cons_succ]
    refine take_run (i := 6) (d := (some 11)) (oi := _) (v := ?_) rfl rfl (by kernel_rfl) (by kernel_rfl) (by kernel_rfl) (fun _ _ _ h => h) (by kernel_rfl) ?_ (by assumption) ?_
    rotate_left 1
    · intro w hSw; (try dsimp only at hSw); go_simp; (try with_reducible rfl)
    try simp only [Act.put, List.setIfInBounds_toArray, List.set_cons_zero, List.set_cons_succ]
    refine take_run (i := 7) (d := (some 12)) (oi := _) (v := ?_) rfl rfl (by kernel_rfl) (by kernel_rfl) (by kernel_rfl) (fun _ _ _ h => h) (by kernel_rfl) ?_ (by assumption) ?_
    rotate_left 1
    · intro w hSw; (try dsimp only at hSw); go_simp; (try with_reducible rfl)
    try simp only [Act.put, List.setIfInBounds_toArray, List.set_cons_zero, List.set_cons_succ]
    refine take_run (i := 8) (d := (some 13)) (oi := _) (v := ?_) rfl rfl (by kernel_rfl) (by kernel_rfl) (by kernel_rfl) (fun _ _ _ h => h) (by kernel_rfl) ?_ (by assumption) ?_
    rotate_left 1
    · intro w hSw; (try dsimp only at hSw); go_simp; (try with_reducible rfl)
    try simp only [Act.put, List.setIfInBounds_toArray, List.set_cons_zero, List.set_cons_succ]
    refine take_run (i := 9) (d := (some 14)) (oi := _) (v := ?_) rfl rfl (by kernel_rfl) (by kernel_rfl) (by kernel_rfl) (fun _ _ _ h => h) (by kernel_rfl) ?_ (by assumption) ?_
    rotate_left 1
    · intro w hSw; (try dsimp only at hSw); go_simp; (try with_reducible rfl)
    try simp only [Act.put, List.setIfInBounds_toArray, List.set_cons_zero, List.set_cons_succ]
    refine take_run (i := 10) (d := (some 15)) (oi := _) (v := ?_) rfl rfl (by kernel_rfl) (by kernel_rfl) (by kernel_rfl) (fun _ _ _ h => h) (by kernel_rfl) ?_ (by assumption) ?_
    rotate_left 1
    · intro w hSw; (try dsimp only at hSw); go_simp; (try with_reducible rfl)
    try simp only [Act.put, List.setIfInBounds_toArray, List.set_cons_zero, List.set_cons_succ]
    refine take_run (i := 11) (d := (some 16)) (oi := _) (v := ?_) rfl rfl (by kernel_rfl) (by kernel_rfl) (by kernel_rfl) (fun _ _ _ h => h) (by kernel_rfl) ?_ (by assumption) ?_
    rotate_left 1
    · intro w hSw; (try dsimp only at hSw); go_simp; (try with_reducible rfl)
    try simp only [Act.put, List.setIfInBounds_toArray, List.set_cons_zero, List.set_cons_succ]
    refine take_run (i := 12) (d := (some 17)) (oi := _) (v := ?_) rfl rfl (by kernel_rfl) (by kernel_rfl) (by kernel_rfl) (fun _ _ _ h => h) (by kernel_rfl) ?_ (by assumption) ?_
    rotate_left 1
    · intro w hSw; (try dsimp only at hSw); go_simp; (try with_reducible rfl)
    try simp only [Act.put, List.setIfInBounds_toArray, List.set_cons_zero, List.set_cons_succ]
    refine take_run (i := 13) (d := (some 18)) (oi := _) (v := ?_) rfl rfl (by kernel_rfl) (by kernel_rfl) (by kernel_rfl) (fun _ _ _ h => h) (by kernel_rfl) ?_ (by assumption) ?_
    rotate_left 1
    · intro w hSw; (try dsimp only at hSw); go_simp; (try with_reducible rfl)
    try simp only [Act.put, List.setIfInBounds_toArray, List.set_cons_zero, List.set_cons_succ]
    refine take_run (i := 14) (d := (some 19)) (oi := _) (v := ?_) rfl rfl (by kernel_rfl) (by kernel_rfl) (by kernel_rfl) (fun _ _ _ h => h) (by kernel_rfl) ?_ (by assumption) ?_
    rotate_left 1
    · intro w hSw; (try dsimp only at hSw); go_simp; (try with_reducible rfl)
    try simp only [Act.put, List.setIfInBounds_toArray, List.set_cons_zero, List.set_cons_succ]
    refine take_run (i := 15) (d := (some 20)) (oi := _) (v := ?_) rfl rfl (by kernel_rfl) (by kernel_rfl) (by kernel_rfl) (fun _ _ _ h => h) (by kernel_rfl) ?_ (by assumption) ?_
    rotate_left 1
    · intro w hSw; (try dsimp only at hSw); go_simp; (try with_reducible rfl)
    try simp only [Act.put, List.setIfInBounds_toArray, List.set_cons_zero, List.set_cons_succ]
    refine take_run (i := 16) (d := (some 21)) (oi := _) (v := ?_) rfl rfl (by kernel_rfl) (by kernel_rfl) (by kernel_rfl) (fun _ _ _ h => h) (by kernel_rfl) ?_ (by assumption) ?_
    rotate_left 1
    · intro w hSw; (try dsimp only at hSw); go_simp; (try with_reducible rfl)
    try simp only [Act.put, List.setIfInBounds_toArray, List.set_cons_zero, List.set_cons_succ]
    refine take_run (i := 17) (d := (some 22)) (oi := _) (v := ?_) rfl rfl (by kernel_rfl) (by kernel_rfl) (by kernel_rfl) (fun _ _ _ h => h) (by kernel_rfl) ?_ (by assumption) ?_
    rotate_left 1
    · intro w hSw; (try dsimp only at hSw); go_simp; (try with_reducible rfl)
    try simp only [Act.put, List.setIfInBounds_toArray, List.set_cons_zero, List.set_cons_succ]
    refine take_run (i := 18) (d := (some 23)) (oi := _) (v := ?_) rfl rfl (by kernel_rfl) (by kernel_rfl) (by kernel_rfl) (fun _ _ _ h => h) (by kernel_rfl) ?_ (by assumption) ?_
    rotate_left 1
    · intro w hSw; (try dsimp only at hSw); go_simp; (try with_reducible rfl)
    try simp only [Act.put, List.setIfInBounds_toArray, List.set_cons_zero, List.set_cons_succ]
    refine take_run (i := 19) (d := (some 24)) (oi := _) (v := ?_) rfl rfl (by kernel_rfl) (by kernel_rfl) (by kernel_rfl) (fun _ _ _ h => h) (by kernel_rfl) ?_ (by assumption) ?_
    rotate_left 1
    · intro w hSw; (try dsimp only at hSw); go_simp; (try with_reducible rfl)
    try simp only [Act.put, List.setIfInBounds_toArray, List.set_cons_zero, List.set_cons_succ]
    refine take_run (i := 20) (d := (some 25)) (oi := _) (v := ?_) rfl rfl (by kernel_rfl) (by kernel_rfl) (by kernel_rfl) (fun _ _ _ h => h) (by kernel_rfl) ?_ (by assumption) ?_
    rotate_left 1
    · intro w hSw; (try dsimp only at hSw); go_simp; (try with_reducible rfl)
    try simp only [Act.put, List.setIfInBounds_toArray, List.set_cons_zero, List.set_cons_succ]
    refine take_run (i := 22) (d := (some 27)) (oi := _) (v := ?_) rfl rfl (by kernel_rfl) (by kernel_rfl) (by kernel_rfl) (fun _ _ _ h => h) (by kernel_rfl) ?_ (by assumption) ?_
    rotate_left 1
    · intro w hSw; (try dsimp only at hSw); go_simp; (try with_reducible rfl)
    try simp only [Act.put, List.setIfInBounds_toArray, List.set_cons_zero, List.set_cons_succ]
    refine wpAnyH_ready (rs := [21]) (by kernel_rfl) (by simp) ?_
    refine AllReadyH.cons (o := _) rfl (fun K hK => ?_) AllReadyH.nil
    go_simp
    (first | (go_at_call 27; have hq := And.left ‹Ext W3 _ ∧ _›; (with_reducible refine (kmay_any a W3 _ hq).mono ?_); rintro e w' ⟨rfl, hx'⟩) | (go_at_call 27; have hq := And.left ‹Ext W3 _ ∧ _›; (with_reducible refine (kmay_any b W3 _ hq).mono ?_); rintro e w' ⟨rfl, hx'⟩) | (go_at_call 61; have hq := And.left ‹Ext W3 _ ∧ _›; (with_reducible refine (kmasked_any a.v b.m W3 _ hq).mono ?_); rintro e w' ⟨rfl, hx'⟩))
    go_wp2_with fail
    refine hK.out _ _ ?_ (fun hHeld2 => ?_)
    · (try dsimp only); (first | exact SK.out _ hx' | exact SK.out _ hx'.drew)
    clear hK K hHeld
    have hHeld := hHeld2
    clear hHeld2
    try simp only [Act.put, List.setIfInBounds_toArray, List.set_cons_zero, List.set_cons_succ]
    refine take_run (i := 23) (d := (some 28)) (oi := _) (v := ?_) rfl rfl (by kernel_rfl) (by kernel_rfl) (by kernel_rfl) (fun _ _ _ h => h) (by kernel_rfl) ?_ (by assumption) ?_
    rotate_left 1
    · intro w hSw; (try dsimp only at hSw); go_simp; (try with_reducible rfl)
    try simp only [Act.put, List.setIfInBounds_toArray, List.set_cons_zero, List.set_cons_succ]
    refine take_run (i := 24) (d := (some 29)) (oi := _) (v := ?_) rfl rfl (by kernel_rfl) (by kernel_rfl) (by kernel_rfl) (fun _ _ _ h => h) (by kernel_rfl) ?_ (by assumption) ?_
    rotate_left 1
    · intro w hSw; (try dsimp only at hSw); go_simp; (try with_reducible rfl)
    try simp only [Act.put, List.setIfInBounds_toArray, List.set_cons_zero, List.set_cons_succ]
    refine take_run (i := 25) (d := (some 4)) (oi := _) (v := ?_) rfl rfl (by kernel_rfl) (by kernel_rfl) (by kernel_rfl) (fun _ _ _ h => h) (by kernel_rfl) ?_ (by assumption) ?_
    rotate_left 1
    · intro w hSw; (try dsimp only at hSw); go_simp; (try with_reducible rfl)
    try simp only [Act.put, List.setIfInBounds_toArray, List.set_cons_zero, List.set_cons_succ]
    refine wpAnyH_done (by kernel_rfl) ?_ _
    go_wp2_with fail
    go_ret
    exact ⟨rfl, hx.trans (x3.trans hx')⟩
  · have SK := hide (fun w' (h : Ext W3 w') => (⟨h, (MK.out _ h).1.1, (MK.out _ h).1.2.1, (MK.out _ h).2.1.1, (MK.out _ h).2.1.2.1⟩ : Ext W3 w' ∧ w'.cell? ⟨w.heap.size, 0, none⟩ = some (.int .u64 a.v) ∧ w'.cell? ⟨w.heap.size, 1, none⟩ = some (.int .u64 a.m) ∧ w'.cell? ⟨w.heap.size + 1, 0, none⟩ = some (.int .u64 b.v) ∧ w'.cell? ⟨w.heap.size + 1, 1, none⟩ = some (.int .u64 b.m)))
    have hm : (kmask a.v b.m).m = b.m := rfl
    have hv : ¬ (kmask a.v b.m).v = b.v := by simpa [kmask] using h4
    rw [HS4.out h1 h2 h3, h4]
    clear h4
    go_enter Try.func31, Try.ntmps31
    go_wp2_with fail
    rw [← hW3]
    clear hW3
    (try clear p0 p1 pf q0 q1 qf sz sz0); obtain ⟨⟨p0, p1, pf⟩, ⟨q0, q1, qf⟩, sz⟩ := MK.out _ hx'; have sz0 := Nat.lt_of_succ_lt sz
    clear p0 p1 pf q0 q1 qf sz sz0
    refine wp_region_held_drew (S := (fun w' => Ext W3 w' ∧ w'.cell? ⟨w.heap.size, 0, none⟩ = some (.int .u64 a.v) ∧ w'.cell? ⟨w.heap.size, 1, none⟩ = some (.int .u64 a.m) ∧ w'.cell? ⟨w.heap.size + 1, 0, none⟩ = some (.int .u64 b.v) ∧ w'.cell? ⟨w.heap.size + 1, 1, none⟩ = some (.int .u64 b.m))) (by kernel_rfl) ?_ (fun hHeld => ?_)
    · (try dsimp only); (first | exact SK.out _ hx' | exact SK.out _ hx'.drew)
    refine take_run (i := 0) (d := (some 5)) (oi := _) (v := ?_) rfl rfl (by kernel_rfl) (by kernel_rfl) (by kernel_rfl) (fun _ _ _ h => h) (by kernel_rfl) ?_ (by assumption) ?_
    rotate_left 1
    · intro w hSw; (try dsimp only at hSw); go_simp; (try with_reducible rfl)
    try simp only [Act.put, List.setIfInBounds_toArray, List.set_cons_zero, List.set_cons_succ]
    refine wpAnyH_ready (rs := [1]) (by kernel_rfl) (by simp) ?_
    refine AllReadyH.cons (o := _) rfl (fun K hK => ?_) AllReadyH.nil
    go_simp
    (first | (go_at_call 27; have hq := And.left ‹Ext W3 _ ∧ _›; (with_reducible refine (kmay_any a W3 _ hq).mono ?_); rintro e w' ⟨rfl, hx'⟩) | (go_at_call 27; have hq := And.left ‹Ext W3 _ ∧ _›; (with_reducible refine (kmay_any b W3 _ hq).mono ?_); rintro e w' ⟨rfl, hx'⟩) | (go_at_call 61; have hq := And.left ‹Ext W3 _ ∧ _›; (with_reducible refine (kmasked_any a.v b.m W3 _ hq).mono ?_); rintro e w' ⟨rfl, hx'⟩))
    go_wp2_with fail
    refine hK.out _ _ ?_ (fun hHeld2 => ?_)
    · (try dsimp only); (first | exact SK.out _ hx' | exact SK.out _ hx'.drew)
    clear hK K hHeld
    have hHeld := hHeld2
    clear hHeld2
    try simp only [Act.put, List.setIfInBounds_toArray, List.set_cons_zero, List.set_cons_succ]
    refine take_run (i := 2) (d := (some 7)) (oi := _) (v := ?_) rfl rfl (by kernel_rfl) (by kernel_rfl) (by kernel_rfl) (fun _ _ _ h => h) (by kernel_rfl) ?_ (by assumption) ?_
    rotate_left 1
    · intro w hSw; (try dsimp only at hSw); go_simp; (try with_reducible rfl)
    try simp only [Act.put, List.setIfInBounds_toArray, List.set_cons_zero, List.set_cons_succ]
    refine take_run (i := 3) (d := (some 8)) (oi := _) (v := ?_) rfl rfl (by kernel_rfl) (by kernel_rfl) (by kernel_rfl) (fun _ _ _ h => h) (by kernel_rfl) ?_ (by assumption) ?_
    rotate_left 1
    · intro w hSw; (try dsimp only at hSw); go_simp; (try with_reducible rfl)
    try simp only [Act.put, List.setIfInBounds_toArray, List.set_cons_zero, List.set_cons_succ]
    refine wpAnyH_ready (rs := [4]) (by kernel_rfl) (by simp) ?_
    refine AllReadyH.cons (o := _) rfl (fun K hK => ?_) AllReadyH.nil
    go_simp
    (first | (go_at_call 27; have hq := And.left ‹Ext W3 _ ∧ _›; (with_reducible refine (kmay_any a W3 _ hq).mono ?_); rintro e w' ⟨rfl, hx'⟩) | (go_at_call 27; have hq := And.left ‹Ext W3 _ ∧ _›; (with_reducible refine (kmay_any b W3 _ hq).mono ?_); rintro e w' ⟨rfl, hx'⟩) | (go_at_call 61; have hq := And.left ‹Ext W3 _ ∧ _›; (with_reducible refine (kmasked_any a.v b.m W3 _ hq).mono ?_); rintro e w' ⟨rfl, hx'⟩))
    go_wp2_with fail
    refine hK.out _ _ ?_ (fun hHeld2 => ?_)
    · (try dsimp only); (first | exact SK.out _ hx' | exact SK.out _ hx'.drew)
    clear hK K hHeld
    have hHeld := hHeld2
    clear hHeld2
    try simp only [Act.put, List.setIfInBounds_toArray, List.set_cons_zero, List.set_cons_succ]
    refine take_run (i := 5) (d := (some 10)) (oi := _) (v := ?_) rfl rfl (by kernel_rfl) (by kernel_rfl) (by kernel_rfl) (fun _ _ _ h => h) (by kernel_rfl) ?_ (by assumption) ?_
    rotate_left 1
    · intro w hSw; (try dsimp only at hSw); go_simp; (try with_reducible rfl)
    try simp only [Act.put, List.setIfInBounds_toArray, List.set_cons_zero, List.set_cons_succ]
    refine take_run (i := 6) (d := (some 11)) (oi := _) (v := ?_) rfl rfl (by kernel_rfl) (by kernel_rfl) (by kernel_rfl) (fun _ _ _ h => h) (by kernel_rfl) ?_ (by assumption) ?_
    rotate_left 1
    · intro w hSw; (try dsimp only at hSw); go_simp; (try with_reducible rfl)
    try simp only [Act.put, List.setIfInBounds_toArray, List.set_cons_zero, List.set_cons_succ]
    refine take_run (i := 7) (d := (some 12)) (oi := _) (v := ?_) rfl rfl (by kernel_rfl) (by kernel_rfl) (by kernel_rfl) (fun _ _ _ h => h) (by kernel_rfl) ?_ (by assumption) ?_
    rotate_left 1
    · intro w hSw; (try dsimp only at hSw); go_simp; (try with_reducible rfl)
    try simp only [Act.put, List.setIfInBounds_toArray, List.set_cons_zero, List.set_cons_succ]
    refine take_run (i := 8) (d := (some 13)) (oi := _) (v := ?_) rfl rfl (by kernel_rfl) (by kernel_rfl) (by kernel_rfl) (fun _ _ _ h => h) (by kernel_rfl) ?_ (by assumption) ?_
    rotate_left 1
    · intro w hSw; (try dsimp only at hSw); go_simp; (try with_reducible rfl)
    try simp only [Act.put, List.setIfInBounds_toArray, List.set_cons_zero, List.set_cons_succ]
    refine take_run (i := 9) (d := (some 14)) (oi := _) (v := ?_) rfl rfl (by kernel_rfl) (by kernel_rfl) (by kernel_rfl) (fun _ _ _ h => h) (by kernel_rfl) ?_ (by assumption) ?_
    rotate_left 1
    · intro w hSw; (try dsimp only at hSw); go_simp; (try with_reducible rfl)
    try simp only [Act.put, List.setIfInBounds_toArray, List.set_cons_zero, List.set_cons_succ]
    refine take_run (i := 10) (d := (some 15)) (oi := _) (v := ?_) rfl rfl (by kernel_rfl) (by kernel_rfl) (by kernel_rfl) (fun _ _ _ h => h) (by kernel_rfl) ?_ (by assumption) ?_
    rotate_left 1
    · intro w hSw; (try dsimp only at hSw); go_simp; (try with_reducible rfl)
    try simp only [Act.put, List.setIfInBounds_toArray, List.set_cons_zero, List.set_cons_succ]
    refine take_run (i := 11) (d := (some 16)) (oi := _) (v := ?_) rfl rfl (by kernel_rfl) (by kernel_rfl) (by kernel_rfl) (fun _ _ _ h => h) (by kernel_rfl) ?_ (by assumption) ?_
    rotate_left 1
    · intro w hSw; (try dsimp only at hSw); go_simp; (try with_reducible rfl)
    try simp only [Act.put, List.setIfInBounds_toArray, List.set_cons_zero, List.set_cons_succ]
    refine take_run (i := 12) (d := (some 17)) (oi := _) (v := ?_) rfl rfl (by kernel_rfl) (by kernel_rfl) (by kernel_rfl) (fun _ _ _ h => h) (by kernel_rfl) ?_ (by assumption) ?_
    rotate_left 1
    · intro w hSw; (try dsimp only at hSw); go_simp; (try with_reducible rfl)
    try simp only [Act.put, List.setIfInBounds_toArray, List.set_cons_zero, List.set_cons_succ]
    refine take_run (i := 13) (d := (some 18)) (oi := _) (v := ?_) rfl rfl (by kernel_rfl) (by kernel_rfl) (by kernel_rfl) (fun _ _ _ h => h) (by kernel_rfl) ?_ (by assumption) ?_
    rotate_left 1
    · intro w hSw; (try dsimp only at hSw); go_simp; (try with_reducible rfl)
    try simp only [Act.put, List.setIfInBounds_toArray, List.set_cons_zero, List.set_cons_succ]
    refine take_run (i := 14) (d := (some 19)) (oi := _) (v := ?_) rfl rfl (by kernel_rfl) (by kernel_rfl) (by kernel_rfl) (fun _ _ _ h => h) (by kernel_rfl) ?_ (by assumption) ?_
    rotate_left 1
    · intro w hSw; (try dsimp only at hSw); go_simp; (try with_reducible rfl)
    try simp only [Act.put, List.setIfInBounds_toArray, List.set_cons_zero, List.set_cons_succ]
    refine take_run (i := 15) (d := (some 20)) (oi := _) (v := ?_) rfl rfl (by kernel_rfl) (by kernel_rfl) (by kernel_rfl) (fun _ _ _ h => h) (by kernel_rfl) ?_ (by assumption) ?_
    rotate_left 1
    · intro w hSw; (try dsimp only at hSw); go_simp; (try with_reducible rfl)
    try simp only [Act.put, List.setIfInBounds_toArray, List.set_cons_zero, List.set_cons_succ]
    refine take_run (i := 16) (d := (some 21)) (oi := _) (v := ?_) rfl rfl (by kernel_rfl) (by kernel_rfl) (by kernel_rfl) (fun _ _ _ h => h) (by kernel_rfl) ?_ (by assumption) ?_
    rotate_left 1
    · intro w hSw; (try dsimp only at hSw); go_simp; (try with_reducible rfl)
    try simp only [Act.put, List.setIfInBounds_toArray, List.set_cons_zero, List.set_cons_succ]
    refine take_run (i := 17) (d := (some 22)) (oi := _) (v := ?_) rfl rfl (by kernel_rfl) (by kernel_rfl) (by kernel_rfl) (fun _ _ _ h => h) (by kernel_rfl) ?_ (by assumption) ?_
    rotate_left 1
    · intro w hSw; (try dsimp only at hSw); go_simp; (try with_reducible rfl)
    try simp only [Act.put, List.setIfInBounds_toArray, List.set_cons_zero, List.set_cons_succ]
    refine take_run (i := 18) (d := (some 23)) (oi := _) (v := ?_) rfl rfl (by kernel_rfl) (by kernel_rfl) (by kernel_rfl) (fun _ _ _ h => h) (by kernel_rfl) ?_ (by assumption) ?_
    rotate_left 1
    · intro w hSw; (try dsimp only at hSw); go_simp; (try with_reducible rfl)
    try simp only [Act.put, List.setIfInBounds_toArray, List.set_cons_zero, List.set_cons_succ]
    refine take_run (i := 19) (d := (some 24)) (oi := _) (v := ?_) rfl rfl (by kernel_rfl) (by kernel_rfl) (by kernel_rfl) (fun _ _ _ h => h) (by kernel_rfl) ?_ (by assumption) ?_
    rotate_left 1
    · intro w hSw; (try dsimp only at hSw); go_simp; (try with_reducible rfl)
    try simp only [Act.put, List.setIfInBounds_toArray, List.set_cons_zero, List.set_cons_succ]
    refine take_run (i := 20) (d := (some 25)) (oi := _) (v := ?_) rfl rfl (by kernel_rfl) (by kernel_rfl) (by kernel_rfl) (fun _ _ _ h => h) (by kernel_rfl) ?_ (by assumption) ?_
    rotate_left 1
    · intro w hSw; (try dsimp only at hSw); go_simp; (try with_reducible rfl)
    try simp only [Act.put, List.setIfInBounds_toArray, List.set_cons_zero, List.set_cons_succ]
    refine take_run (i := 22) (d := (some 27)) (oi := _) (v := ?_) rfl rfl (by kernel_rfl) (by kernel_rfl) (by kernel_rfl) (fun _ _ _ h => h) (by kernel_rfl) ?_ (by assumption) ?_
    rotate_left 1
    · intro w hSw; (try dsimp only at hSw); go_simp; (try with_reducible rfl)
    try simp only [Act.put, List.setIfInBounds_toArray, List.set_cons_zero, List.set_cons_succ]
    refine wpAnyH_ready (rs := [21]) (by kernel_rfl) (by simp) ?_
    refine AllReadyH.cons (o := _) rfl (fun K hK => ?_) AllReadyH.nil
    go_simp
    (first | (go_at_call 27; have hq := And.left ‹Ext W3 _ ∧ _›; (with_reducible refine (kmay_any a W3 _ hq).mono ?_); rintro e w' ⟨rfl, hx'⟩) | (go_at_call 27; have hq := And.left ‹Ext W3 _ ∧ _›; (with_reducible refine (kmay_any b W3 _ hq).mono ?_); rintro e w' ⟨rfl, hx'⟩) | (go_at_call 61; have hq := And.left ‹Ext W3 _ ∧ _›; (with_reducible refine (kmasked_any a.v b.m W3 _ hq).mono ?_); rintro e w' ⟨rfl, hx'⟩))
    go_wp2_with fail
    refine hK.out _ _ ?_ (fun hHeld2 => ?_)
    · (try dsimp only); (first | exact SK.out _ hx' | exact SK.out _ hx'.drew)
    clear hK K hHeld
    have hHeld := hHeld2
    clear hHeld2
    try simp only [Act.put, List.setIfInBounds_toArray, List.set_cons_zero, List.set_cons_succ]
    refine take_run (i := 23) (d := (some 28)) (oi := _) (v := ?_) rfl rfl (by kernel_rfl) (by kernel_rfl) (by kernel_rfl) (fun _ _ _ h => h) (by kernel_rfl) ?_ (by assumption) ?_
    rotate_left 1
    · intro w hSw; (try dsimp only at hSw); go_simp; (try with_reducible rfl)
    try simp only [Act.put, List.setIfInBounds_toArray, List.set_cons_zero, List.set_cons_succ]
    refine take_run (i := 24) (d := (some 29)) (oi := _) (v := ?_) rfl rfl (by kernel_rfl) (by kernel_rfl) (by kernel_rfl) (fun _ _ _ h => h) (by kernel_rfl) ?_ (by assumption) ?_
    rotate_left 1
    · intro w hSw; (try dsimp only at hSw); go_simp; (try with_reducible rfl)
    try simp only [Act.put, List.setIfInBounds_toArray, List.set_cons_zero, List.set_cons_succ]
    refine take_run (i := 25) (d := (some 4)) (oi := _) (v := ?_) rfl rfl (by kernel_rfl) (by kernel_rfl) (by kernel_rfl) (fun _ _ _ h => h) (by kernel_rfl) ?_ (by assumption) ?_
    rotate_left 1
    · intro w hSw; (try dsimp only at hSw); go_simp; (try with_reducible rfl)
    try simp only [Act.put, List.setIfInBounds_toArray, List.set_cons_zero, List.set_cons_succ]
    refine wpAnyH_done (by kernel_rfl) ?_ _
    go_wp2_with fail
    go_ret
    exact ⟨rfl, hx.trans (x3.trans hx')⟩
end Go.Proofs.Ytkoiaadhbgccaaa
