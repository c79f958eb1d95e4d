/- The walk of the law TraceLike. -/
import Derived.Test.YteheidiiigjglaaTrLk
import Derived.Test.YteheidiiigjglaaHeld
import Derived.Test.YteheidiiigjglaaTraceChain
import Derived.Deep.CutRange
import Derived.Deep.DeepCutAuto
import Derived.Deep.RegionHeld3
namespace Go.Proofs.Yteheidiiigjglaa
open Go.RowKit Go.ChangeShapes Go.WideShapes

theorem like_self (a : Oc) : zlike a a = true := by simp [zlike]
theorem like_comm (a b : Oc) : zlike a b = zlike b a := by
  rw [Bool.eq_iff_iff]
  simp only [zlike, Bool.and_eq_true, Bool.or_eq_true, beq_iff_eq, decide_eq_true_eq, bne_iff_ne]
  constructor
  · rintro ⟨h1, h2, h3⟩
    exact ⟨h1.symm, h2.symm, h3.imp (by rw [h1]; exact id) (fun h => ⟨h.1.symm, h.2.symm⟩)⟩
  · rintro ⟨h1, h2, h3⟩
    exact ⟨h1.symm, h2.symm, h3.imp (by rw [h1]; exact id) (fun h => ⟨h.1.symm, h.2.symm⟩)⟩
theorem like_trans {a b c : Oc} (h1 : zlike a b = true) (h2 : zlike b c = true) : zlike a c = true := by
  simp only [zlike, Bool.and_eq_true, Bool.or_eq_true, beq_iff_eq, decide_eq_true_eq, bne_iff_ne] at h1 h2 ⊢
  obtain ⟨a1, a2, a3⟩ := h1
  obtain ⟨b1, b2, b3⟩ := h2
  refine ⟨a1.trans b1, a2.trans b2, ?_⟩
  by_cases hk : a.kind = 1
  · right
    have hb : b.kind = 1 := by rw [← a1]; exact hk
    have a4 := a3.resolve_left (fun h => h hk)
    have b4 := b3.resolve_left (fun h => h hb)
    exact ⟨a4.1.trans b4.1, a4.2.trans b4.2⟩
  · exact .inl hk
theorem same_like {a b : Oc} (h : zsame a b = true) : zlike a b = true := by
  rw [zsame_eq, decide_eq_true_iff] at h
  rw [h]; exact like_self b

set_option maxRecDepth 100000 in
set_option maxHeartbeats 8000000 in
theorem like_walk (a b c : Oc) (by' : Int) (va vb vc : Value) (W : World) (ha : OcV W va a) (hb : OcV W vb b) (hc : OcV W vc c) :
    Calls Try.prog 6 #[va, vb, vc, .int .u8 by'] W fun e W' => e = .returned (.bool true) ∧ Ext W W' := by
  obtain ⟨ac, at', rfl, ha1, ha2, ha3⟩ := ha
  obtain ⟨bc, bt, rfl, hb1, hb2, hb3⟩ := hb
  obtain ⟨cc, ct, rfl, hc1, hc2, hc3⟩ := hc
  have hA : ∀ w, Ext W w → OcV w (.agg #[.int .i8 a.kind, .int .u64 a.r0, ac, at', .int .i64 a.left]) a := fun w h => ⟨ac, at', rfl, ha1.ext h, ha2.ext h, ha3⟩
  have hB : ∀ w, Ext W w → OcV w (.agg #[.int .i8 b.kind, .int .u64 b.r0, bc, bt, .int .i64 b.left]) b := fun w h => ⟨bc, bt, rfl, hb1.ext h, hb2.ext h, hb3⟩
  have hC : ∀ w, Ext W w → OcV w (.agg #[.int .i8 c.kind, .int .u64 c.r0, cc, ct, .int .i64 c.left]) c := fun w h => ⟨cc, ct, rfl, hc1.ext h, hc2.ext h, hc3⟩
  have KA := hide ha3
  obtain ⟨W1, hW1⟩ : ∃ W1, W1 = W.alloc (.cells #[.int .i8 a.kind, .int .u64 a.r0, ac, at', .int .i64 a.left] 31) := ⟨_, rfl⟩
  obtain ⟨W2, hW2⟩ : ∃ W2, W2 = W1.alloc (.cells #[.int .i8 b.kind, .int .u64 b.r0, bc, bt, .int .i64 b.left] 31) := ⟨_, rfl⟩
  obtain ⟨W3, hW3⟩ : ∃ W3, W3 = W2.alloc (.cells #[.int .i8 c.kind, .int .u64 c.r0, cc, ct, .int .i64 c.left] 31) := ⟨_, rfl⟩
  have s1 : W1.heap.size = W.heap.size + 1 := by rw [hW1]; simp
  have s2 : W2.heap.size = W.heap.size + 1 + 1 := by rw [hW2]; simp [s1]
  have x1 : Ext W W1 := by rw [hW1]; exact (Ext.refl W).alloc _
  have x12 : Ext W1 W2 := by rw [hW2]; exact (Ext.refl W1).alloc _
  have x23 : Ext W2 W3 := by rw [hW3]; exact (Ext.refl W2).alloc _
  have BA : Blk W3 W.heap.size #[.int .i8 a.kind, .int .u64 a.r0, ac, at', .int .i64 a.left] 31 := Blk.ext (w := W1) (by rw [hW1]; exact heap_alloc_new _ _) (x12.trans x23)
  have BB : Blk W3 (W.heap.size + 1) #[.int .i8 b.kind, .int .u64 b.r0, bc, bt, .int .i64 b.left] 31 := Blk.ext (w := W2) (by rw [hW2, ← s1]; exact heap_alloc_new _ _) x23
  have BC : Blk W3 (W.heap.size + 1 + 1) #[.int .i8 c.kind, .int .u64 c.r0, cc, ct, .int .i64 c.left] 31 := by rw [hW3, ← s2]; exact heap_alloc_new _ _
  have x03 : Ext W W3 := x1.trans (x12.trans x23)
  have mk : ∀ w', Ext W3 w' → Ext W3 w' ∧
      w'.cell? ⟨W.heap.size, 0, none⟩ = some (.int .i8 a.kind) ∧ w'.cell? ⟨W.heap.size, 1, none⟩ = some (.int .u64 a.r0) ∧ w'.cell? ⟨W.heap.size, 2, none⟩ = some ac ∧ w'.cell? ⟨W.heap.size, 3, none⟩ = some at' ∧ w'.cell? ⟨W.heap.size, 4, none⟩ = some (.int .i64 a.left) ∧
      w'.cell? ⟨W.heap.size + 1, 0, none⟩ = some (.int .i8 b.kind) ∧ w'.cell? ⟨W.heap.size + 1, 1, none⟩ = some (.int .u64 b.r0) ∧ w'.cell? ⟨W.heap.size + 1, 2, none⟩ = some bc ∧ w'.cell? ⟨W.heap.size + 1, 3, none⟩ = some bt ∧ w'.cell? ⟨W.heap.size + 1, 4, none⟩ = some (.int .i64 b.left) ∧
      w'.cell? ⟨W.heap.size + 1 + 1, 0, none⟩ = some (.int .i8 c.kind) ∧ w'.cell? ⟨W.heap.size + 1 + 1, 1, none⟩ = some (.int .u64 c.r0) ∧ w'.cell? ⟨W.heap.size + 1 + 1, 2, none⟩ = some cc ∧ w'.cell? ⟨W.heap.size + 1 + 1, 3, none⟩ = some ct ∧ w'.cell? ⟨W.heap.size + 1 + 1, 4, none⟩ = some (.int .i64 c.left) := fun w' h =>
    ⟨h, (BA.ext h).cell 0, (BA.ext h).cell 1, (BA.ext h).cell 2, (BA.ext h).cell 3, (BA.ext h).cell 4, (BB.ext h).cell 0, (BB.ext h).cell 1, (BB.ext h).cell 2, (BB.ext h).cell 3, (BB.ext h).cell 4, (BC.ext h).cell 0, (BC.ext h).cell 1, (BC.ext h).cell 2, (BC.ext h).cell 3, (BC.ext h).cell 4⟩
  have HA := hide hA
  have HB := hide hB
  have HC := hide hC
  have MK := hide mk
  have HBA := hide BA
  have hx : Ext W3 W3 := Ext.refl _
  clear hA hB hC mk BA BB BC s1 s2 x1 x12 x23 ha1 ha2 ha3 hb1 hb2 hb3 hc1 hc2 hc3
  subst hW1
  subst hW2
  have hg : zgreat a = true ∨ (zgreat a = false ∧ zgreat b = true) ∨ (zgreat a = false ∧ zgreat b = false ∧ zgreat c = true) ∨ (zgreat a = false ∧ zgreat b = false ∧ zgreat c = false) := by
    cases zgreat a <;> cases zgreat b <;> cases zgreat c <;> simp
  rcases hg with g1 | ⟨g1, g2⟩ | ⟨g1, g2, g3⟩ | ⟨g1, g2, g3⟩
  all_goals
    have G1 := hide g1
    go_enter Try.func6, Try.ntmps6
    go_wp2_with fail
    rw [← hW3]
    clear hW3
    obtain ⟨h0, a0, a1, a2, a3, a4, b0, b1, b2, b3, b4, c0, c1, c2, c3, c4⟩ := MK.out _ hx
    go_wp2_with (first
      | (go_at_call 20; (with_reducible refine (Great_any a _ W3 _ (by assumption) (HA.out _ (x03.trans (by assumption)))).mono ?_); rintro e w' ⟨rfl, hx'⟩; (try clear a0 a1 a2 a3 a4 b0 b1 b2 b3 b4 c0 c1 c2 c3 c4); obtain ⟨h0, a0, a1, a2, a3, a4, b0, b1, b2, b3, b4, c0, c1, c2, c3, c4⟩ := MK.out _ hx')
      | (go_at_call 20; (with_reducible refine (Great_any b _ W3 _ (by assumption) (HB.out _ (x03.trans (by assumption)))).mono ?_); rintro e w' ⟨rfl, hx'⟩; (try clear a0 a1 a2 a3 a4 b0 b1 b2 b3 b4 c0 c1 c2 c3 c4); obtain ⟨h0, a0, a1, a2, a3, a4, b0, b1, b2, b3, b4, c0, c1, c2, c3, c4⟩ := MK.out _ hx')
      | (go_at_call 20; (with_reducible refine (Great_any c _ W3 _ (by assumption) (HC.out _ (x03.trans (by assumption)))).mono ?_); rintro e w' ⟨rfl, hx'⟩; (try clear a0 a1 a2 a3 a4 b0 b1 b2 b3 b4 c0 c1 c2 c3 c4); obtain ⟨h0, a0, a1, a2, a3, a4, b0, b1, b2, b3, b4, c0, c1, c2, c3, c4⟩ := MK.out _ hx')
      | (go_at_call 16; refine (twakes_any W3 _ (by assumption)).mono ?_; rintro e w' ⟨rfl, hx'⟩)
      | fail)
  iterate 3
    go_ret
    exact ⟨rfl, x03.trans (by assumption)⟩
  go_cut [64] from 25 to 64 (fun s64 wx => s64 = .bool false ∧ Ext W3 wx)
  case first =>
    have leaf : (zlike a b = false ∧ zlike b a = false ∧ zsame a b = false) ∨ (zlike a b = true ∧ zlike b a = true ∧ zlike b c = false ∧ zsame a b = false) ∨ (zlike a b = true ∧ zlike b a = true ∧ zlike b c = false ∧ zsame a b = true) ∨
        (zlike a b = true ∧ zlike b a = true ∧ zlike b c = true ∧ zlike a c = true ∧ zsame a b = false) ∨ (zlike a b = true ∧ zlike b a = true ∧ zlike b c = true ∧ zlike a c = true ∧ zsame a b = true) := by
      rw [like_comm b a]
      cases h1 : zlike a b
      · cases h2 : zsame a b
        · simp
        · rw [same_like h2] at h1; cases h1
      · cases h2 : zlike b c
        · cases zsame a b <;> simp
        · cases zsame a b <;> simp [like_trans h1 h2]
    have laa := like_self a
    rcases leaf with ⟨l1, l2, l3⟩ | ⟨l1, l2, l3, l4⟩ | ⟨l1, l2, l3, l4⟩ | ⟨l1, l2, l3, l4, l5⟩ | ⟨l1, l2, l3, l4, l5⟩
    · refine wp_region_held_drew (S := (fun w' => Ext W3 w' ∧ w'.cell? ⟨W.heap.size, 0, none⟩ = some (.int .i8 a.kind) ∧ w'.cell? ⟨W.heap.size, 1, none⟩ = some (.int .u64 a.r0) ∧ w'.cell? ⟨W.heap.size, 2, none⟩ = some ac ∧ w'.cell? ⟨W.heap.size, 3, none⟩ = some at' ∧ w'.cell? ⟨W.heap.size, 4, none⟩ = some (.int .i64 a.left) ∧ w'.cell? ⟨W.heap.size + 1, 0, none⟩ = some (.int .i8 b.kind) ∧ w'.cell? ⟨W.heap.size + 1, 1, none⟩ = some (.int .u64 b.r0) ∧ w'.cell? ⟨W.heap.size + 1, 2, none⟩ = some bc ∧ w'.cell? ⟨W.heap.size + 1, 3, none⟩ = some bt ∧ w'.cell? ⟨W.heap.size + 1, 4, none⟩ = some (.int .i64 b.left) ∧ w'.cell? ⟨W.heap.size + 1 + 1, 0, none⟩ = some (.int .i8 c.kind) ∧ w'.cell? ⟨W.heap.size + 1 + 1, 1, none⟩ = some (.int .u64 c.r0) ∧ w'.cell? ⟨W.heap.size + 1 + 1, 2, none⟩ = some cc ∧ w'.cell? ⟨W.heap.size + 1 + 1, 3, none⟩ = some ct ∧ w'.cell? ⟨W.heap.size + 1 + 1, 4, none⟩ = some (.int .i64 c.left))) (by kernel_rfl) ?_ (fun hHeld => ?_)
      · (try dsimp only); (first | exact MK.out _ hx' | exact MK.out _ hx'.drew | exact MK.out _ (by assumption) | assumption | go_keep)
      refine take_run (i := 0) (d := (some 25)) (oi := _) (v := ?_) rfl rfl (by kernel_rfl) (by kernel_rfl) (by kernel_rfl) (fun _ _ _ h => h) (by kernel_rfl) ?_ (by assumption) ?_
      rotate_left 1
      · intro w hSw; (try dsimp only at hSw); go_simp; (try with_reducible rfl)
      try simp only [Act.put, List.setIfInBounds_toArray, List.set_cons_zero, List.set_cons_succ]
      refine take_run (i := 1) (d := (some 26)) (oi := _) (v := ?_) rfl rfl (by kernel_rfl) (by kernel_rfl) (by kernel_rfl) (fun _ _ _ h => h) (by kernel_rfl) ?_ (by assumption) ?_
      rotate_left 1
      · intro w hSw; (try dsimp only at hSw); go_simp; (try with_reducible rfl)
      try simp only [Act.put, List.setIfInBounds_toArray, List.set_cons_zero, List.set_cons_succ]
      refine wpAnyH_ready (rs := [2]) (by kernel_rfl) (by simp) ?_
      refine AllReadyH.cons (o := _) rfl (fun K hK => ?_) AllReadyH.nil
      go_simp
      (first         | (go_at_call 22; have hq := And.left ‹Ext W3 _ ∧ _›; (with_reducible refine (Like_any a a _ _ W3 _ (by assumption) (HA.out _ (x03.trans (by assumption))) (HA.out _ (x03.trans (by assumption)))).mono ?_); rintro e w' ⟨rfl, hx'⟩)         | (go_at_call 22; have hq := And.left ‹Ext W3 _ ∧ _›; (with_reducible refine (Like_any a b _ _ W3 _ (by assumption) (HA.out _ (x03.trans (by assumption))) (HB.out _ (x03.trans (by assumption)))).mono ?_); rintro e w' ⟨rfl, hx'⟩)         | (go_at_call 22; have hq := And.left ‹Ext W3 _ ∧ _›; (with_reducible refine (Like_any b a _ _ W3 _ (by assumption) (HB.out _ (x03.trans (by assumption))) (HA.out _ (x03.trans (by assumption)))).mono ?_); rintro e w' ⟨rfl, hx'⟩)         | (go_at_call 22; have hq := And.left ‹Ext W3 _ ∧ _›; (with_reducible refine (Like_any b c _ _ W3 _ (by assumption) (HB.out _ (x03.trans (by assumption))) (HC.out _ (x03.trans (by assumption)))).mono ?_); rintro e w' ⟨rfl, hx'⟩)         | (go_at_call 22; have hq := And.left ‹Ext W3 _ ∧ _›; (with_reducible refine (Like_any a c _ _ W3 _ (by assumption) (HA.out _ (x03.trans (by assumption))) (HC.out _ (x03.trans (by assumption)))).mono ?_); rintro e w' ⟨rfl, hx'⟩)         | (go_at_call 18; have hq := And.left ‹Ext W3 _ ∧ _›; (with_reducible refine (Same_any a b _ _ W3 _ (by assumption) (HA.out _ (x03.trans (by assumption))) (HB.out _ (x03.trans (by assumption)))).mono ?_); rintro e w' ⟨rfl, hx'⟩))
      go_wp2_with fail
      refine hK.out _ _ ?_ (fun hHeld2 => ?_)
      · (try dsimp only); (first | exact MK.out _ hx' | exact MK.out _ hx'.drew | exact MK.out _ (by assumption) | assumption | go_keep)
      clear hK K hHeld
      have hHeld := hHeld2
      clear hHeld2
      try simp only [Act.put, List.setIfInBounds_toArray, List.set_cons_zero, List.set_cons_succ]
      refine take_run (i := 3) (d := (some 28)) (oi := _) (v := ?_) rfl rfl (by kernel_rfl) (by kernel_rfl) (by kernel_rfl) (fun _ _ _ h => h) (by kernel_rfl) ?_ (by assumption) ?_
      rotate_left 1
      · intro w hSw; (try dsimp only at hSw); go_simp; (try with_reducible rfl)
      try simp only [Act.put, List.setIfInBounds_toArray, List.set_cons_zero, List.set_cons_succ]
      refine take_run (i := 4) (d := (some 29)) (oi := _) (v := ?_) rfl rfl (by kernel_rfl) (by kernel_rfl) (by kernel_rfl) (fun _ _ _ h => h) (by kernel_rfl) ?_ (by assumption) ?_
      rotate_left 1
      · intro w hSw; (try dsimp only at hSw); go_simp; (try with_reducible rfl)
      try simp only [Act.put, List.setIfInBounds_toArray, List.set_cons_zero, List.set_cons_succ]
      refine take_run (i := 5) (d := (some 30)) (oi := _) (v := ?_) rfl rfl (by kernel_rfl) (by kernel_rfl) (by kernel_rfl) (fun _ _ _ h => h) (by kernel_rfl) ?_ (by assumption) ?_
      rotate_left 1
      · intro w hSw; (try dsimp only at hSw); go_simp; (try with_reducible rfl)
      try simp only [Act.put, List.setIfInBounds_toArray, List.set_cons_zero, List.set_cons_succ]
      refine take_run (i := 6) (d := (some 31)) (oi := _) (v := ?_) rfl rfl (by kernel_rfl) (by kernel_rfl) (by kernel_rfl) (fun _ _ _ h => h) (by kernel_rfl) ?_ (by assumption) ?_
      rotate_left 1
      · intro w hSw; (try dsimp only at hSw); go_simp; (try with_reducible rfl)
      try simp only [Act.put, List.setIfInBounds_toArray, List.set_cons_zero, List.set_cons_succ]
      refine take_run (i := 8) (d := (some 33)) (oi := _) (v := ?_) rfl rfl (by kernel_rfl) (by kernel_rfl) (by kernel_rfl) (fun _ _ _ h => h) (by kernel_rfl) ?_ (by assumption) ?_
      rotate_left 1
      · intro w hSw; (try dsimp only at hSw); go_simp; (try with_reducible rfl)
      try simp only [Act.put, List.setIfInBounds_toArray, List.set_cons_zero, List.set_cons_succ]
      refine take_run (i := 9) (d := (some 34)) (oi := _) (v := ?_) rfl rfl (by kernel_rfl) (by kernel_rfl) (by kernel_rfl) (fun _ _ _ h => h) (by kernel_rfl) ?_ (by assumption) ?_
      rotate_left 1
      · intro w hSw; (try dsimp only at hSw); go_simp; (try with_reducible rfl)
      try simp only [Act.put, List.setIfInBounds_toArray, List.set_cons_zero, List.set_cons_succ]
      refine wpAnyH_ready (rs := [7]) (by kernel_rfl) (by simp) ?_
      refine AllReadyH.cons (o := _) rfl (fun K hK => ?_) AllReadyH.nil
      go_simp
      (first         | (go_at_call 22; have hq := And.left ‹Ext W3 _ ∧ _›; (with_reducible refine (Like_any a a _ _ W3 _ (by assumption) (HA.out _ (x03.trans (by assumption))) (HA.out _ (x03.trans (by assumption)))).mono ?_); rintro e w' ⟨rfl, hx'⟩)         | (go_at_call 22; have hq := And.left ‹Ext W3 _ ∧ _›; (with_reducible refine (Like_any a b _ _ W3 _ (by assumption) (HA.out _ (x03.trans (by assumption))) (HB.out _ (x03.trans (by assumption)))).mono ?_); rintro e w' ⟨rfl, hx'⟩)         | (go_at_call 22; have hq := And.left ‹Ext W3 _ ∧ _›; (with_reducible refine (Like_any b a _ _ W3 _ (by assumption) (HB.out _ (x03.trans (by assumption))) (HA.out _ (x03.trans (by assumption)))).mono ?_); rintro e w' ⟨rfl, hx'⟩)         | (go_at_call 22; have hq := And.left ‹Ext W3 _ ∧ _›; (with_reducible refine (Like_any b c _ _ W3 _ (by assumption) (HB.out _ (x03.trans (by assumption))) (HC.out _ (x03.trans (by assumption)))).mono ?_); rintro e w' ⟨rfl, hx'⟩)         | (go_at_call 22; have hq := And.left ‹Ext W3 _ ∧ _›; (with_reducible refine (Like_any a c _ _ W3 _ (by assumption) (HA.out _ (x03.trans (by assumption))) (HC.out _ (x03.trans (by assumption)))).mono ?_); rintro e w' ⟨rfl, hx'⟩)         | (go_at_call 18; have hq := And.left ‹Ext W3 _ ∧ _›; (with_reducible refine (Same_any a b _ _ W3 _ (by assumption) (HA.out _ (x03.trans (by assumption))) (HB.out _ (x03.trans (by assumption)))).mono ?_); rintro e w' ⟨rfl, hx'⟩))
      go_wp2_with fail
      refine hK.out _ _ ?_ (fun hHeld2 => ?_)
      · (try dsimp only); (first | exact MK.out _ hx' | exact MK.out _ hx'.drew | exact MK.out _ (by assumption) | assumption | go_keep)
      clear hK K hHeld
      have hHeld := hHeld2
      clear hHeld2
      try simp only [Act.put, List.setIfInBounds_toArray, List.set_cons_zero, List.set_cons_succ]
      refine wpAnyH_ready (rs := [10]) (by kernel_rfl) (by simp) ?_
      refine AllReadyH.cons (o := _) rfl (fun K hK => ?_) AllReadyH.nil
      go_simp
      (first         | (go_at_call 22; have hq := And.left ‹Ext W3 _ ∧ _›; (with_reducible refine (Like_any a a _ _ W3 _ (by assumption) (HA.out _ (x03.trans (by assumption))) (HA.out _ (x03.trans (by assumption)))).mono ?_); rintro e w' ⟨rfl, hx'⟩)         | (go_at_call 22; have hq := And.left ‹Ext W3 _ ∧ _›; (with_reducible refine (Like_any a b _ _ W3 _ (by assumption) (HA.out _ (x03.trans (by assumption))) (HB.out _ (x03.trans (by assumption)))).mono ?_); rintro e w' ⟨rfl, hx'⟩)         | (go_at_call 22; have hq := And.left ‹Ext W3 _ ∧ _›; (with_reducible refine (Like_any b a _ _ W3 _ (by assumption) (HB.out _ (x03.trans (by assumption))) (HA.out _ (x03.trans (by assumption)))).mono ?_); rintro e w' ⟨rfl, hx'⟩)         | (go_at_call 22; have hq := And.left ‹Ext W3 _ ∧ _›; (with_reducible refine (Like_any b c _ _ W3 _ (by assumption) (HB.out _ (x03.trans (by assumption))) (HC.out _ (x03.trans (by assumption)))).mono ?_); rintro e w' ⟨rfl, hx'⟩)         | (go_at_call 22; have hq := And.left ‹Ext W3 _ ∧ _›; (with_reducible refine (Like_any a c _ _ W3 _ (by assumption) (HA.out _ (x03.trans (by assumption))) (HC.out _ (x03.trans (by assumption)))).mono ?_); rintro e w' ⟨rfl, hx'⟩)         | (go_at_call 18; have hq := And.left ‹Ext W3 _ ∧ _›; (with_reducible refine (Same_any a b _ _ W3 _ (by assumption) (HA.out _ (x03.trans (by assumption))) (HB.out _ (x03.trans (by assumption)))).mono ?_); rintro e w' ⟨rfl, hx'⟩))
      go_wp2_with fail
      refine hK.out _ _ ?_ (fun hHeld2 => ?_)
      · (try dsimp only); (first | exact MK.out _ hx' | exact MK.out _ hx'.drew | exact MK.out _ (by assumption) | assumption | go_keep)
      clear hK K hHeld
      have hHeld := hHeld2
      clear hHeld2
      try simp only [Act.put, List.setIfInBounds_toArray, List.set_cons_zero, List.set_cons_succ]
      refine take_run (i := 11) (d := (some 36)) (oi := _) (v := ?_) rfl rfl (by kernel_rfl) (by kernel_rfl) (by kernel_rfl) (fun _ _ _ h => h) (by kernel_rfl) ?_ (by assumption) ?_
      rotate_left 1
      · intro w hSw; (try dsimp only at hSw); go_simp; (try with_reducible rfl)
      try simp only [Act.put, List.setIfInBounds_toArray, List.set_cons_zero, List.set_cons_succ]
      refine take_run (i := 12) (d := (some 37)) (oi := _) (v := ?_) rfl rfl (by kernel_rfl) (by kernel_rfl) (by kernel_rfl) (fun _ _ _ h => h) (by kernel_rfl) ?_ (by assumption) ?_
      rotate_left 1
      · intro w hSw; (try dsimp only at hSw); go_simp; (try with_reducible rfl)
      try simp only [Act.put, List.setIfInBounds_toArray, List.set_cons_zero, List.set_cons_succ]
      refine take_run (i := 13) (d := (some 38)) (oi := _) (v := ?_) rfl rfl (by kernel_rfl) (by kernel_rfl) (by kernel_rfl) (fun _ _ _ h => h) (by kernel_rfl) ?_ (by assumption) ?_
      rotate_left 1
      · intro w hSw; (try dsimp only at hSw); go_simp; (try with_reducible rfl)
      try simp only [Act.put, List.setIfInBounds_toArray, List.set_cons_zero, List.set_cons_succ]
      refine take_run (i := 14) (d := (some 39)) (oi := _) (v := ?_) rfl rfl (by kernel_rfl) (by kernel_rfl) (by kernel_rfl) (fun _ _ _ h => h) (by kernel_rfl) ?_ (by assumption) ?_
      rotate_left 1
      · intro w hSw; (try dsimp only at hSw); go_simp; (try with_reducible rfl)
      try simp only [Act.put, List.setIfInBounds_toArray, List.set_cons_zero, List.set_cons_succ]
      refine take_run (i := 15) (d := (some 40)) (oi := _) (v := ?_) rfl rfl (by kernel_rfl) (by kernel_rfl) (by kernel_rfl) (fun _ _ _ h => h) (by kernel_rfl) ?_ (by assumption) ?_
      rotate_left 1
      · intro w hSw; (try dsimp only at hSw); go_simp; (try with_reducible rfl)
      try simp only [Act.put, List.setIfInBounds_toArray, List.set_cons_zero, List.set_cons_succ]
      refine wpAnyH_ready (rs := [16]) (by kernel_rfl) (by simp) ?_
      refine AllReadyH.cons (o := _) rfl (fun K hK => ?_) AllReadyH.nil
      go_simp
      (first         | (go_at_call 22; have hq := And.left ‹Ext W3 _ ∧ _›; (with_reducible refine (Like_any a a _ _ W3 _ (by assumption) (HA.out _ (x03.trans (by assumption))) (HA.out _ (x03.trans (by assumption)))).mono ?_); rintro e w' ⟨rfl, hx'⟩)         | (go_at_call 22; have hq := And.left ‹Ext W3 _ ∧ _›; (with_reducible refine (Like_any a b _ _ W3 _ (by assumption) (HA.out _ (x03.trans (by assumption))) (HB.out _ (x03.trans (by assumption)))).mono ?_); rintro e w' ⟨rfl, hx'⟩)         | (go_at_call 22; have hq := And.left ‹Ext W3 _ ∧ _›; (with_reducible refine (Like_any b a _ _ W3 _ (by assumption) (HB.out _ (x03.trans (by assumption))) (HA.out _ (x03.trans (by assumption)))).mono ?_); rintro e w' ⟨rfl, hx'⟩)         | (go_at_call 22; have hq := And.left ‹Ext W3 _ ∧ _›; (with_reducible refine (Like_any b c _ _ W3 _ (by assumption) (HB.out _ (x03.trans (by assumption))) (HC.out _ (x03.trans (by assumption)))).mono ?_); rintro e w' ⟨rfl, hx'⟩)         | (go_at_call 22; have hq := And.left ‹Ext W3 _ ∧ _›; (with_reducible refine (Like_any a c _ _ W3 _ (by assumption) (HA.out _ (x03.trans (by assumption))) (HC.out _ (x03.trans (by assumption)))).mono ?_); rintro e w' ⟨rfl, hx'⟩)         | (go_at_call 18; have hq := And.left ‹Ext W3 _ ∧ _›; (with_reducible refine (Same_any a b _ _ W3 _ (by assumption) (HA.out _ (x03.trans (by assumption))) (HB.out _ (x03.trans (by assumption)))).mono ?_); rintro e w' ⟨rfl, hx'⟩))
      go_wp2_with fail
      refine hK.out _ _ ?_ (fun hHeld2 => ?_)
      · (try dsimp only); (first | exact MK.out _ hx' | exact MK.out _ hx'.drew | exact MK.out _ (by assumption) | assumption | go_keep)
      clear hK K hHeld
      have hHeld := hHeld2
      clear hHeld2
      try simp only [Act.put, List.setIfInBounds_toArray, List.set_cons_zero, List.set_cons_succ]
      refine take_run (i := 17) (d := (some 42)) (oi := _) (v := ?_) rfl rfl (by kernel_rfl) (by kernel_rfl) (by kernel_rfl) (fun _ _ _ h => h) (by kernel_rfl) ?_ (by assumption) ?_
      rotate_left 1
      · intro w hSw; (try dsimp only at hSw); go_simp; (try with_reducible rfl)
      try simp only [Act.put, List.setIfInBounds_toArray, List.set_cons_zero, List.set_cons_succ]
      refine take_skip (i := 18) (d := (some 43)) (oi := _) rfl rfl (by kernel_rfl) (by kernel_rfl) (by kernel_rfl) (fun _ _ _ h => h) (by kernel_rfl) (by assumption) ?_
      try simp only [Act.put, List.setIfInBounds_toArray, List.set_cons_zero, List.set_cons_succ]
      refine take_skip (i := 19) (d := (some 44)) (oi := _) rfl rfl (by kernel_rfl) (by kernel_rfl) (by kernel_rfl) (fun _ _ _ h => h) (by kernel_rfl) (by assumption) ?_
      try simp only [Act.put, List.setIfInBounds_toArray, List.set_cons_zero, List.set_cons_succ]
      refine take_skip (i := 20) (d := (some 45)) (oi := _) rfl rfl (by kernel_rfl) (by kernel_rfl) (by kernel_rfl) (fun _ _ _ h => h) (by kernel_rfl) (by assumption) ?_
      try simp only [Act.put, List.setIfInBounds_toArray, List.set_cons_zero, List.set_cons_succ]
      refine take_run (i := 21) (d := (some 46)) (oi := _) (v := ?_) rfl rfl (by kernel_rfl) (by kernel_rfl) (by kernel_rfl) (fun _ _ _ h => h) (by kernel_rfl) ?_ (by assumption) ?_
      rotate_left 1
      · intro w hSw; (try dsimp only at hSw); go_simp; (try with_reducible rfl)
      try simp only [Act.put, List.setIfInBounds_toArray, List.set_cons_zero, List.set_cons_succ]
      refine take_run (i := 22) (d := (some 47)) (oi := _) (v := ?_) rfl rfl (by kernel_rfl) (by kernel_rfl) (by kernel_rfl) (fun _ _ _ h => h) (by kernel_rfl) ?_ (by assumption) ?_
      rotate_left 1
      · intro w hSw; (try dsimp only at hSw); go_simp; (try with_reducible rfl)
      try simp only [Act.put, List.setIfInBounds_toArray, List.set_cons_zero, List.set_cons_succ]
      refine take_skip (i := 23) (d := (some 48)) (oi := _) rfl rfl (by kernel_rfl) (by kernel_rfl) (by kernel_rfl) (fun _ _ _ h => h) (by kernel_rfl) (by assumption) ?_
      try simp only [Act.put, List.setIfInBounds_toArray, List.set_cons_zero, List.set_cons_succ]
      refine take_skip (i := 24) (d := (some 49)) (oi := _) rfl rfl (by kernel_rfl) (by kernel_rfl) (by kernel_rfl) (fun _ _ _ h => h) (by kernel_rfl) (by assumption) ?_
      try simp only [Act.put, List.setIfInBounds_toArray, List.set_cons_zero, List.set_cons_succ]
      refine take_skip (i := 25) (d := (some 50)) (oi := _) rfl rfl (by kernel_rfl) (by kernel_rfl) (by kernel_rfl) (fun _ _ _ h => h) (by kernel_rfl) (by assumption) ?_
      try simp only [Act.put, List.setIfInBounds_toArray, List.set_cons_zero, List.set_cons_succ]
      refine take_skip (i := 26) (d := (some 51)) (oi := _) rfl rfl (by kernel_rfl) (by kernel_rfl) (by kernel_rfl) (fun _ _ _ h => h) (by kernel_rfl) (by assumption) ?_
      try simp only [Act.put, List.setIfInBounds_toArray, List.set_cons_zero, List.set_cons_succ]
      refine take_run (i := 27) (d := (some 52)) (oi := _) (v := ?_) rfl rfl (by kernel_rfl) (by kernel_rfl) (by kernel_rfl) (fun _ _ _ h => h) (by kernel_rfl) ?_ (by assumption) ?_
      rotate_left 1
      · intro w hSw; (try dsimp only at hSw); go_simp; (try with_reducible rfl)
      try simp only [Act.put, List.setIfInBounds_toArray, List.set_cons_zero, List.set_cons_succ]
      refine take_run (i := 28) (d := (some 53)) (oi := _) (v := ?_) rfl rfl (by kernel_rfl) (by kernel_rfl) (by kernel_rfl) (fun _ _ _ h => h) (by kernel_rfl) ?_ (by assumption) ?_
      rotate_left 1
      · intro w hSw; (try dsimp only at hSw); go_simp; (try with_reducible rfl)
      try simp only [Act.put, List.setIfInBounds_toArray, List.set_cons_zero, List.set_cons_succ]
      refine take_run (i := 29) (d := (some 54)) (oi := _) (v := ?_) rfl rfl (by kernel_rfl) (by kernel_rfl) (by kernel_rfl) (fun _ _ _ h => h) (by kernel_rfl) ?_ (by assumption) ?_
      rotate_left 1
      · intro w hSw; (try dsimp only at hSw); go_simp; (try with_reducible rfl)
      try simp only [Act.put, List.setIfInBounds_toArray, List.set_cons_zero, List.set_cons_succ]
      refine take_run (i := 30) (d := (some 55)) (oi := _) (v := ?_) rfl rfl (by kernel_rfl) (by kernel_rfl) (by kernel_rfl) (fun _ _ _ h => h) (by kernel_rfl) ?_ (by assumption) ?_
      rotate_left 1
      · intro w hSw; (try dsimp only at hSw); go_simp; (try with_reducible rfl)
      try simp only [Act.put, List.setIfInBounds_toArray, List.set_cons_zero, List.set_cons_succ]
      refine take_run (i := 31) (d := (some 56)) (oi := _) (v := ?_) rfl rfl (by kernel_rfl) (by kernel_rfl) (by kernel_rfl) (fun _ _ _ h => h) (by kernel_rfl) ?_ (by assumption) ?_
      rotate_left 1
      · intro w hSw; (try dsimp only at hSw); go_simp; (try with_reducible rfl)
      try simp only [Act.put, List.setIfInBounds_toArray, List.set_cons_zero, List.set_cons_succ]
      refine wpAnyH_ready (rs := [32]) (by kernel_rfl) (by simp) ?_
      refine AllReadyH.cons (o := _) rfl (fun K hK => ?_) AllReadyH.nil
      go_simp
      (first         | (go_at_call 22; have hq := And.left ‹Ext W3 _ ∧ _›; (with_reducible refine (Like_any a a _ _ W3 _ (by assumption) (HA.out _ (x03.trans (by assumption))) (HA.out _ (x03.trans (by assumption)))).mono ?_); rintro e w' ⟨rfl, hx'⟩)         | (go_at_call 22; have hq := And.left ‹Ext W3 _ ∧ _›; (with_reducible refine (Like_any a b _ _ W3 _ (by assumption) (HA.out _ (x03.trans (by assumption))) (HB.out _ (x03.trans (by assumption)))).mono ?_); rintro e w' ⟨rfl, hx'⟩)         | (go_at_call 22; have hq := And.left ‹Ext W3 _ ∧ _›; (with_reducible refine (Like_any b a _ _ W3 _ (by assumption) (HB.out _ (x03.trans (by assumption))) (HA.out _ (x03.trans (by assumption)))).mono ?_); rintro e w' ⟨rfl, hx'⟩)         | (go_at_call 22; have hq := And.left ‹Ext W3 _ ∧ _›; (with_reducible refine (Like_any b c _ _ W3 _ (by assumption) (HB.out _ (x03.trans (by assumption))) (HC.out _ (x03.trans (by assumption)))).mono ?_); rintro e w' ⟨rfl, hx'⟩)         | (go_at_call 22; have hq := And.left ‹Ext W3 _ ∧ _›; (with_reducible refine (Like_any a c _ _ W3 _ (by assumption) (HA.out _ (x03.trans (by assumption))) (HC.out _ (x03.trans (by assumption)))).mono ?_); rintro e w' ⟨rfl, hx'⟩)         | (go_at_call 18; have hq := And.left ‹Ext W3 _ ∧ _›; (with_reducible refine (Same_any a b _ _ W3 _ (by assumption) (HA.out _ (x03.trans (by assumption))) (HB.out _ (x03.trans (by assumption)))).mono ?_); rintro e w' ⟨rfl, hx'⟩))
      go_wp2_with fail
      refine hK.out _ _ ?_ (fun hHeld2 => ?_)
      · (try dsimp only); (first | exact MK.out _ hx' | exact MK.out _ hx'.drew | exact MK.out _ (by assumption) | assumption | go_keep)
      clear hK K hHeld
      have hHeld := hHeld2
      clear hHeld2
      try simp only [Act.put, List.setIfInBounds_toArray, List.set_cons_zero, List.set_cons_succ]
      refine take_run (i := 33) (d := (some 58)) (oi := _) (v := ?_) rfl rfl (by kernel_rfl) (by kernel_rfl) (by kernel_rfl) (fun _ _ _ h => h) (by kernel_rfl) ?_ (by assumption) ?_
      rotate_left 1
      · intro w hSw; (try dsimp only at hSw); go_simp; (try with_reducible rfl)
      try simp only [Act.put, List.setIfInBounds_toArray, List.set_cons_zero, List.set_cons_succ]
      refine take_skip (i := 34) (d := (some 59)) (oi := _) rfl rfl (by kernel_rfl) (by kernel_rfl) (by kernel_rfl) (fun _ _ _ h => h) (by kernel_rfl) (by assumption) ?_
      try simp only [Act.put, List.setIfInBounds_toArray, List.set_cons_zero, List.set_cons_succ]
      refine take_skip (i := 35) (d := (some 60)) (oi := _) rfl rfl (by kernel_rfl) (by kernel_rfl) (by kernel_rfl) (fun _ _ _ h => h) (by kernel_rfl) (by assumption) ?_
      try simp only [Act.put, List.setIfInBounds_toArray, List.set_cons_zero, List.set_cons_succ]
      refine take_skip (i := 36) (d := (some 61)) (oi := _) rfl rfl (by kernel_rfl) (by kernel_rfl) (by kernel_rfl) (fun _ _ _ h => h) (by kernel_rfl) (by assumption) ?_
      try simp only [Act.put, List.setIfInBounds_toArray, List.set_cons_zero, List.set_cons_succ]
      refine take_skip (i := 37) (d := (some 62)) (oi := _) rfl rfl (by kernel_rfl) (by kernel_rfl) (by kernel_rfl) (fun _ _ _ h => h) (by kernel_rfl) (by assumption) ?_
      try simp only [Act.put, List.setIfInBounds_toArray, List.set_cons_zero, List.set_cons_succ]
      refine take_run (i := 38) (d := (some 63)) (oi := _) (v := ?_) rfl rfl (by kernel_rfl) (by kernel_rfl) (by kernel_rfl) (fun _ _ _ h => h) (by kernel_rfl) ?_ (by assumption) ?_
      rotate_left 1
      · intro w hSw; (try dsimp only at hSw); go_simp; (try with_reducible rfl)
      try simp only [Act.put, List.setIfInBounds_toArray, List.set_cons_zero, List.set_cons_succ]
      refine take_run (i := 39) (d := (some 64)) (oi := _) (v := ?_) rfl rfl (by kernel_rfl) (by kernel_rfl) (by kernel_rfl) (fun _ _ _ h => h) (by kernel_rfl) ?_ (by assumption) ?_
      rotate_left 1
      · intro w hSw; (try dsimp only at hSw); go_simp; (try with_reducible rfl)
      try simp only [Act.put, List.setIfInBounds_toArray, List.set_cons_zero, List.set_cons_succ]
      refine wpAnyH_done (by kernel_rfl) ?_ _
      go_wp2_with fail
      go_meet
      exact ⟨rfl, by assumption⟩
    · refine wp_region_held_drew (S := (fun w' => Ext W3 w' ∧ w'.cell? ⟨W.heap.size, 0, none⟩ = some (.int .i8 a.kind) ∧ w'.cell? ⟨W.heap.size, 1, none⟩ = some (.int .u64 a.r0) ∧ w'.cell? ⟨W.heap.size, 2, none⟩ = some ac ∧ w'.cell? ⟨W.heap.size, 3, none⟩ = some at' ∧ w'.cell? ⟨W.heap.size, 4, none⟩ = some (.int .i64 a.left) ∧ w'.cell? ⟨W.heap.size + 1, 0, none⟩ = some (.int .i8 b.kind) ∧ w'.cell? ⟨W.heap.size + 1, 1, none⟩ = some (.int .u64 b.r0) ∧ w'.cell? ⟨W.heap.size + 1, 2, none⟩ = some bc ∧ w'.cell? ⟨W.heap.size + 1, 3, none⟩ = some bt ∧ w'.cell? ⟨W.heap.size + 1, 4, none⟩ = some (.int .i64 b.left) ∧ w'.cell? ⟨W.heap.size + 1 + 1, 0, none⟩ = some (.int .i8 c.kind) ∧ w'.cell? ⟨W.heap.size + 1 + 1, 1, none⟩ = some (.int .u64 c.r0) ∧ w'.cell? ⟨W.heap.size + 1 + 1, 2, none⟩ = some cc ∧ w'.cell? ⟨W.heap.size + 1 + 1, 3, none⟩ = some ct ∧ w'.cell? ⟨W.heap.size + 1 + 1, 4, none⟩ = some (.int .i64 c.left))) (by kernel_rfl) ?_ (fun hHeld => ?_)
      · (try dsimp only); (first | exact MK.out _ hx' | exact MK.out _ hx'.drew | exact MK.out _ (by assumption) | assumption | go_keep)
      refine take_run (i := 0) (d := (some 25)) (oi := _) (v := ?_) rfl rfl (by kernel_rfl) (by kernel_rfl) (by kernel_rfl) (fun _ _ _ h => h) (by kernel_rfl) ?_ (by assumption) ?_
      rotate_left 1
      · intro w hSw; (try dsimp only at hSw); go_simp; (try with_reducible rfl)
      try simp only [Act.put, List.setIfInBounds_toArray, List.set_cons_zero, List.set_cons_succ]
      refine take_run (i := 1) (d := (some 26)) (oi := _) (v := ?_) rfl rfl (by kernel_rfl) (by kernel_rfl) (by kernel_rfl) (fun _ _ _ h => h) (by kernel_rfl) ?_ (by assumption) ?_
      rotate_left 1
      · intro w hSw; (try dsimp only at hSw); go_simp; (try with_reducible rfl)
      try simp only [Act.put, List.setIfInBounds_toArray, List.set_cons_zero, List.set_cons_succ]
      refine wpAnyH_ready (rs := [2]) (by kernel_rfl) (by simp) ?_
      refine AllReadyH.cons (o := _) rfl (fun K hK => ?_) AllReadyH.nil
      go_simp
      (first         | (go_at_call 22; have hq := And.left ‹Ext W3 _ ∧ _›; (with_reducible refine (Like_any a a _ _ W3 _ (by assumption) (HA.out _ (x03.trans (by assumption))) (HA.out _ (x03.trans (by assumption)))).mono ?_); rintro e w' ⟨rfl, hx'⟩)         | (go_at_call 22; have hq := And.left ‹Ext W3 _ ∧ _›; (with_reducible refine (Like_any a b _ _ W3 _ (by assumption) (HA.out _ (x03.trans (by assumption))) (HB.out _ (x03.trans (by assumption)))).mono ?_); rintro e w' ⟨rfl, hx'⟩)         | (go_at_call 22; have hq := And.left ‹Ext W3 _ ∧ _›; (with_reducible refine (Like_any b a _ _ W3 _ (by assumption) (HB.out _ (x03.trans (by assumption))) (HA.out _ (x03.trans (by assumption)))).mono ?_); rintro e w' ⟨rfl, hx'⟩)         | (go_at_call 22; have hq := And.left ‹Ext W3 _ ∧ _›; (with_reducible refine (Like_any b c _ _ W3 _ (by assumption) (HB.out _ (x03.trans (by assumption))) (HC.out _ (x03.trans (by assumption)))).mono ?_); rintro e w' ⟨rfl, hx'⟩)         | (go_at_call 22; have hq := And.left ‹Ext W3 _ ∧ _›; (with_reducible refine (Like_any a c _ _ W3 _ (by assumption) (HA.out _ (x03.trans (by assumption))) (HC.out _ (x03.trans (by assumption)))).mono ?_); rintro e w' ⟨rfl, hx'⟩)         | (go_at_call 18; have hq := And.left ‹Ext W3 _ ∧ _›; (with_reducible refine (Same_any a b _ _ W3 _ (by assumption) (HA.out _ (x03.trans (by assumption))) (HB.out _ (x03.trans (by assumption)))).mono ?_); rintro e w' ⟨rfl, hx'⟩))
      go_wp2_with fail
      refine hK.out _ _ ?_ (fun hHeld2 => ?_)
      · (try dsimp only); (first | exact MK.out _ hx' | exact MK.out _ hx'.drew | exact MK.out _ (by assumption) | assumption | go_keep)
      clear hK K hHeld
      have hHeld := hHeld2
      clear hHeld2
      try simp only [Act.put, List.setIfInBounds_toArray, List.set_cons_zero, List.set_cons_succ]
      refine take_run (i := 3) (d := (some 28)) (oi := _) (v := ?_) rfl rfl (by kernel_rfl) (by kernel_rfl) (by kernel_rfl) (fun _ _ _ h => h) (by kernel_rfl) ?_ (by assumption) ?_
      rotate_left 1
      · intro w hSw; (try dsimp only at hSw); go_simp; (try with_reducible rfl)
      try simp only [Act.put, List.setIfInBounds_toArray, List.set_cons_zero, List.set_cons_succ]
      refine take_run (i := 4) (d := (some 29)) (oi := _) (v := ?_) rfl rfl (by kernel_rfl) (by kernel_rfl) (by kernel_rfl) (fun _ _ _ h => h) (by kernel_rfl) ?_ (by assumption) ?_
      rotate_left 1
      · intro w hSw; (try dsimp only at hSw); go_simp; (try with_reducible rfl)
      try simp only [Act.put, List.setIfInBounds_toArray, List.set_cons_zero, List.set_cons_succ]
      refine take_run (i := 5) (d := (some 30)) (oi := _) (v := ?_) rfl rfl (by kernel_rfl) (by kernel_rfl) (by kernel_rfl) (fun _ _ _ h => h) (by kernel_rfl) ?_ (by assumption) ?_
      rotate_left 1
      · intro w hSw; (try dsimp only at hSw); go_simp; (try with_reducible rfl)
      try simp only [Act.put, List.setIfInBounds_toArray, List.set_cons_zero, List.set_cons_succ]
      refine take_run (i := 6) (d := (some 31)) (oi := _) (v := ?_) rfl rfl (by kernel_rfl) (by kernel_rfl) (by kernel_rfl) (fun _ _ _ h => h) (by kernel_rfl) ?_ (by assumption) ?_
      rotate_left 1
      · intro w hSw; (try dsimp only at hSw); go_simp; (try with_reducible rfl)
      try simp only [Act.put, List.setIfInBounds_toArray, List.set_cons_zero, List.set_cons_succ]
      refine take_run (i := 8) (d := (some 33)) (oi := _) (v := ?_) rfl rfl (by kernel_rfl) (by kernel_rfl) (by kernel_rfl) (fun _ _ _ h => h) (by kernel_rfl) ?_ (by assumption) ?_
      rotate_left 1
      · intro w hSw; (try dsimp only at hSw); go_simp; (try with_reducible rfl)
      try simp only [Act.put, List.setIfInBounds_toArray, List.set_cons_zero, List.set_cons_succ]
      refine take_run (i := 9) (d := (some 34)) (oi := _) (v := ?_) rfl rfl (by kernel_rfl) (by kernel_rfl) (by kernel_rfl) (fun _ _ _ h => h) (by kernel_rfl) ?_ (by assumption) ?_
      rotate_left 1
      · intro w hSw; (try dsimp only at hSw); go_simp; (try with_reducible rfl)
      try simp only [Act.put, List.setIfInBounds_toArray, List.set_cons_zero, List.set_cons_succ]
      refine wpAnyH_ready (rs := [7]) (by kernel_rfl) (by simp) ?_
      refine AllReadyH.cons (o := _) rfl (fun K hK => ?_) AllReadyH.nil
      go_simp
      (first         | (go_at_call 22; have hq := And.left ‹Ext W3 _ ∧ _›; (with_reducible refine (Like_any a a _ _ W3 _ (by assumption) (HA.out _ (x03.trans (by assumption))) (HA.out _ (x03.trans (by assumption)))).mono ?_); rintro e w' ⟨rfl, hx'⟩)         | (go_at_call 22; have hq := And.left ‹Ext W3 _ ∧ _›; (with_reducible refine (Like_any a b _ _ W3 _ (by assumption) (HA.out _ (x03.trans (by assumption))) (HB.out _ (x03.trans (by assumption)))).mono ?_); rintro e w' ⟨rfl, hx'⟩)         | (go_at_call 22; have hq := And.left ‹Ext W3 _ ∧ _›; (with_reducible refine (Like_any b a _ _ W3 _ (by assumption) (HB.out _ (x03.trans (by assumption))) (HA.out _ (x03.trans (by assumption)))).mono ?_); rintro e w' ⟨rfl, hx'⟩)         | (go_at_call 22; have hq := And.left ‹Ext W3 _ ∧ _›; (with_reducible refine (Like_any b c _ _ W3 _ (by assumption) (HB.out _ (x03.trans (by assumption))) (HC.out _ (x03.trans (by assumption)))).mono ?_); rintro e w' ⟨rfl, hx'⟩)         | (go_at_call 22; have hq := And.left ‹Ext W3 _ ∧ _›; (with_reducible refine (Like_any a c _ _ W3 _ (by assumption) (HA.out _ (x03.trans (by assumption))) (HC.out _ (x03.trans (by assumption)))).mono ?_); rintro e w' ⟨rfl, hx'⟩)         | (go_at_call 18; have hq := And.left ‹Ext W3 _ ∧ _›; (with_reducible refine (Same_any a b _ _ W3 _ (by assumption) (HA.out _ (x03.trans (by assumption))) (HB.out _ (x03.trans (by assumption)))).mono ?_); rintro e w' ⟨rfl, hx'⟩))
      go_wp2_with fail
      refine hK.out _ _ ?_ (fun hHeld2 => ?_)
      · (try dsimp only); (first | exact MK.out _ hx' | exact MK.out _ hx'.drew | exact MK.out _ (by assumption) | assumption | go_keep)
      clear hK K hHeld
      have hHeld := hHeld2
      clear hHeld2
      try simp only [Act.put, List.setIfInBounds_toArray, List.set_cons_zero, List.set_cons_succ]
      refine wpAnyH_ready (rs := [10]) (by kernel_rfl) (by simp) ?_
      refine AllReadyH.cons (o := _) rfl (fun K hK => ?_) AllReadyH.nil
      go_simp
      (first         | (go_at_call 22; have hq := And.left ‹Ext W3 _ ∧ _›; (with_reducible refine (Like_any a a _ _ W3 _ (by assumption) (HA.out _ (x03.trans (by assumption))) (HA.out _ (x03.trans (by assumption)))).mono ?_); rintro e w' ⟨rfl, hx'⟩)         | (go_at_call 22; have hq := And.left ‹Ext W3 _ ∧ _›; (with_reducible refine (Like_any a b _ _ W3 _ (by assumption) (HA.out _ (x03.trans (by assumption))) (HB.out _ (x03.trans (by assumption)))).mono ?_); rintro e w' ⟨rfl, hx'⟩)         | (go_at_call 22; have hq := And.left ‹Ext W3 _ ∧ _›; (with_reducible refine (Like_any b a _ _ W3 _ (by assumption) (HB.out _ (x03.trans (by assumption))) (HA.out _ (x03.trans (by assumption)))).mono ?_); rintro e w' ⟨rfl, hx'⟩)         | (go_at_call 22; have hq := And.left ‹Ext W3 _ ∧ _›; (with_reducible refine (Like_any b c _ _ W3 _ (by assumption) (HB.out _ (x03.trans (by assumption))) (HC.out _ (x03.trans (by assumption)))).mono ?_); rintro e w' ⟨rfl, hx'⟩)         | (go_at_call 22; have hq := And.left ‹Ext W3 _ ∧ _›; (with_reducible refine (Like_any a c _ _ W3 _ (by assumption) (HA.out _ (x03.trans (by assumption))) (HC.out _ (x03.trans (by assumption)))).mono ?_); rintro e w' ⟨rfl, hx'⟩)         | (go_at_call 18; have hq := And.left ‹Ext W3 _ ∧ _›; (with_reducible refine (Same_any a b _ _ W3 _ (by assumption) (HA.out _ (x03.trans (by assumption))) (HB.out _ (x03.trans (by assumption)))).mono ?_); rintro e w' ⟨rfl, hx'⟩))
      go_wp2_with fail
      refine hK.out _ _ ?_ (fun hHeld2 => ?_)
      · (try dsimp only); (first | exact MK.out _ hx' | exact MK.out _ hx'.drew | exact MK.out _ (by assumption) | assumption | go_keep)
      clear hK K hHeld
      have hHeld := hHeld2
      clear hHeld2
      try simp only [Act.put, List.setIfInBounds_toArray, List.set_cons_zero, List.set_cons_succ]
      refine take_run (i := 11) (d := (some 36)) (oi := _) (v := ?_) rfl rfl (by kernel_rfl) (by kernel_rfl) (by kernel_rfl) (fun _ _ _ h => h) (by kernel_rfl) ?_ (by assumption) ?_
      rotate_left 1
      · intro w hSw; (try dsimp only at hSw); go_simp; (try with_reducible rfl)
      try simp only [Act.put, List.setIfInBounds_toArray, List.set_cons_zero, List.set_cons_succ]
      refine take_run (i := 12) (d := (some 37)) (oi := _) (v := ?_) rfl rfl (by kernel_rfl) (by kernel_rfl) (by kernel_rfl) (fun _ _ _ h => h) (by kernel_rfl) ?_ (by assumption) ?_
      rotate_left 1
      · intro w hSw; (try dsimp only at hSw); go_simp; (try with_reducible rfl)
      try simp only [Act.put, List.setIfInBounds_toArray, List.set_cons_zero, List.set_cons_succ]
      refine take_run (i := 13) (d := (some 38)) (oi := _) (v := ?_) rfl rfl (by kernel_rfl) (by kernel_rfl) (by kernel_rfl) (fun _ _ _ h => h) (by kernel_rfl) ?_ (by assumption) ?_
      rotate_left 1
      · intro w hSw; (try dsimp only at hSw); go_simp; (try with_reducible rfl)
      try simp only [Act.put, List.setIfInBounds_toArray, List.set_cons_zero, List.set_cons_succ]
      refine take_run (i := 14) (d := (some 39)) (oi := _) (v := ?_) rfl rfl (by kernel_rfl) (by kernel_rfl) (by kernel_rfl) (fun _ _ _ h => h) (by kernel_rfl) ?_ (by assumption) ?_
      rotate_left 1
      · intro w hSw; (try dsimp only at hSw); go_simp; (try with_reducible rfl)
      try simp only [Act.put, List.setIfInBounds_toArray, List.set_cons_zero, List.set_cons_succ]
      refine take_run (i := 15) (d := (some 40)) (oi := _) (v := ?_) rfl rfl (by kernel_rfl) (by kernel_rfl) (by kernel_rfl) (fun _ _ _ h => h) (by kernel_rfl) ?_ (by assumption) ?_
      rotate_left 1
      · intro w hSw; (try dsimp only at hSw); go_simp; (try with_reducible rfl)
      try simp only [Act.put, List.setIfInBounds_toArray, List.set_cons_zero, List.set_cons_succ]
      refine wpAnyH_ready (rs := [16]) (by kernel_rfl) (by simp) ?_
      refine AllReadyH.cons (o := _) rfl (fun K hK => ?_) AllReadyH.nil
      go_simp
      (first         | (go_at_call 22; have hq := And.left ‹Ext W3 _ ∧ _›; (with_reducible refine (Like_any a a _ _ W3 _ (by assumption) (HA.out _ (x03.trans (by assumption))) (HA.out _ (x03.trans (by assumption)))).mono ?_); rintro e w' ⟨rfl, hx'⟩)         | (go_at_call 22; have hq := And.left ‹Ext W3 _ ∧ _›; (with_reducible refine (Like_any a b _ _ W3 _ (by assumption) (HA.out _ (x03.trans (by assumption))) (HB.out _ (x03.trans (by assumption)))).mono ?_); rintro e w' ⟨rfl, hx'⟩)         | (go_at_call 22; have hq := And.left ‹Ext W3 _ ∧ _›; (with_reducible refine (Like_any b a _ _ W3 _ (by assumption) (HB.out _ (x03.trans (by assumption))) (HA.out _ (x03.trans (by assumption)))).mono ?_); rintro e w' ⟨rfl, hx'⟩)         | (go_at_call 22; have hq := And.left ‹Ext W3 _ ∧ _›; (with_reducible refine (Like_any b c _ _ W3 _ (by assumption) (HB.out _ (x03.trans (by assumption))) (HC.out _ (x03.trans (by assumption)))).mono ?_); rintro e w' ⟨rfl, hx'⟩)         | (go_at_call 22; have hq := And.left ‹Ext W3 _ ∧ _›; (with_reducible refine (Like_any a c _ _ W3 _ (by assumption) (HA.out _ (x03.trans (by assumption))) (HC.out _ (x03.trans (by assumption)))).mono ?_); rintro e w' ⟨rfl, hx'⟩)         | (go_at_call 18; have hq := And.left ‹Ext W3 _ ∧ _›; (with_reducible refine (Same_any a b _ _ W3 _ (by assumption) (HA.out _ (x03.trans (by assumption))) (HB.out _ (x03.trans (by assumption)))).mono ?_); rintro e w' ⟨rfl, hx'⟩))
      go_wp2_with fail
      refine hK.out _ _ ?_ (fun hHeld2 => ?_)
      · (try dsimp only); (first | exact MK.out _ hx' | exact MK.out _ hx'.drew | exact MK.out _ (by assumption) | assumption | go_keep)
      clear hK K hHeld
      have hHeld := hHeld2
      clear hHeld2
      try simp only [Act.put, List.setIfInBounds_toArray, List.set_cons_zero, List.set_cons_succ]
      refine take_run (i := 17) (d := (some 42)) (oi := _) (v := ?_) rfl rfl (by kernel_rfl) (by kernel_rfl) (by kernel_rfl) (fun _ _ _ h => h) (by kernel_rfl) ?_ (by assumption) ?_
      rotate_left 1
      · intro w hSw; (try dsimp only at hSw); go_simp; (try with_reducible rfl)
      try simp only [Act.put, List.setIfInBounds_toArray, List.set_cons_zero, List.set_cons_succ]
      refine take_run (i := 18) (d := (some 43)) (oi := _) (v := ?_) rfl rfl (by kernel_rfl) (by kernel_rfl) (by kernel_rfl) (fun _ _ _ h => h) (by kernel_rfl) ?_ (by assumption) ?_
      rotate_left 1
      · intro w hSw; (try dsimp only at hSw); go_simp; (try with_reducible rfl)
      try simp only [Act.put, List.setIfInBounds_toArray, List.set_cons_zero, List.set_cons_succ]
      refine take_run (i := 19) (d := (some 44)) (oi := _) (v := ?_) rfl rfl (by kernel_rfl) (by kernel_rfl) (by kernel_rfl) (fun _ _ _ h => h) (by kernel_rfl) ?_ (by assumption) ?_
      rotate_left 1
      · intro w hSw; (try dsimp only at hSw); go_simp; (try with_reducible rfl)
      try simp only [Act.put, List.setIfInBounds_toArray, List.set_cons_zero, List.set_cons_succ]
      refine wpAnyH_ready (rs := [20]) (by kernel_rfl) (by simp) ?_
      refine AllReadyH.cons (o := _) rfl (fun K hK => ?_) AllReadyH.nil
      go_simp
      (first         | (go_at_call 22; have hq := And.left ‹Ext W3 _ ∧ _›; (with_reducible refine (Like_any a a _ _ W3 _ (by assumption) (HA.out _ (x03.trans (by assumption))) (HA.out _ (x03.trans (by assumption)))).mono ?_); rintro e w' ⟨rfl, hx'⟩)         | (go_at_call 22; have hq := And.left ‹Ext W3 _ ∧ _›; (with_reducible refine (Like_any a b _ _ W3 _ (by assumption) (HA.out _ (x03.trans (by assumption))) (HB.out _ (x03.trans (by assumption)))).mono ?_); rintro e w' ⟨rfl, hx'⟩)         | (go_at_call 22; have hq := And.left ‹Ext W3 _ ∧ _›; (with_reducible refine (Like_any b a _ _ W3 _ (by assumption) (HB.out _ (x03.trans (by assumption))) (HA.out _ (x03.trans (by assumption)))).mono ?_); rintro e w' ⟨rfl, hx'⟩)         | (go_at_call 22; have hq := And.left ‹Ext W3 _ ∧ _›; (with_reducible refine (Like_any b c _ _ W3 _ (by assumption) (HB.out _ (x03.trans (by assumption))) (HC.out _ (x03.trans (by assumption)))).mono ?_); rintro e w' ⟨rfl, hx'⟩)         | (go_at_call 22; have hq := And.left ‹Ext W3 _ ∧ _›; (with_reducible refine (Like_any a c _ _ W3 _ (by assumption) (HA.out _ (x03.trans (by assumption))) (HC.out _ (x03.trans (by assumption)))).mono ?_); rintro e w' ⟨rfl, hx'⟩)         | (go_at_call 18; have hq := And.left ‹Ext W3 _ ∧ _›; (with_reducible refine (Same_any a b _ _ W3 _ (by assumption) (HA.out _ (x03.trans (by assumption))) (HB.out _ (x03.trans (by assumption)))).mono ?_); rintro e w' ⟨rfl, hx'⟩))
      go_wp2_with fail
      refine hK.out _ _ ?_ (fun hHeld2 => ?_)
      · (try dsimp only); (first | exact MK.out _ hx' | exact MK.out _ hx'.drew | exact MK.out _ (by assumption) | assumption | go_keep)
      clear hK K hHeld
      have hHeld := hHeld2
      clear hHeld2
      try simp only [Act.put, List.setIfInBounds_toArray, List.set_cons_zero, List.set_cons_succ]
      refine take_run (i := 21) (d := (some 46)) (oi := _) (v := ?_) rfl rfl (by kernel_rfl) (by kernel_rfl) (by kernel_rfl) (fun _ _ _ h => h) (by kernel_rfl) ?_ (by assumption) ?_
      rotate_left 1
      · intro w hSw; (try dsimp only at hSw); go_simp; (try with_reducible rfl)
      try simp only [Act.put, List.setIfInBounds_toArray, List.set_cons_zero, List.set_cons_succ]
      refine take_run (i := 22) (d := (some 47)) (oi := _) (v := ?_) rfl rfl (by kernel_rfl) (by kernel_rfl) (by kernel_rfl) (fun _ _ _ h => h) (by kernel_rfl) ?_ (by assumption) ?_
      rotate_left 1
      · intro w hSw; (try dsimp only at hSw); go_simp; (try with_reducible rfl)
      try simp only [Act.put, List.setIfInBounds_toArray, List.set_cons_zero, List.set_cons_succ]
      refine take_skip (i := 23) (d := (some 48)) (oi := _) rfl rfl (by kernel_rfl) (by kernel_rfl) (by kernel_rfl) (fun _ _ _ h => h) (by kernel_rfl) (by assumption) ?_
      try simp only [Act.put, List.setIfInBounds_toArray, List.set_cons_zero, List.set_cons_succ]
      refine take_skip (i := 24) (d := (some 49)) (oi := _) rfl rfl (by kernel_rfl) (by kernel_rfl) (by kernel_rfl) (fun _ _ _ h => h) (by kernel_rfl) (by assumption) ?_
      try simp only [Act.put, List.setIfInBounds_toArray, List.set_cons_zero, List.set_cons_succ]
      refine take_skip (i := 25) (d := (some 50)) (oi := _) rfl rfl (by kernel_rfl) (by kernel_rfl) (by kernel_rfl) (fun _ _ _ h => h) (by kernel_rfl) (by assumption) ?_
      try simp only [Act.put, List.setIfInBounds_toArray, List.set_cons_zero, List.set_cons_succ]
      refine take_skip (i := 26) (d := (some 51)) (oi := _) rfl rfl (by kernel_rfl) (by kernel_rfl) (by kernel_rfl) (fun _ _ _ h => h) (by kernel_rfl) (by assumption) ?_
      try simp only [Act.put, List.setIfInBounds_toArray, List.set_cons_zero, List.set_cons_succ]
      refine take_run (i := 27) (d := (some 52)) (oi := _) (v := ?_) rfl rfl (by kernel_rfl) (by kernel_rfl) (by kernel_rfl) (fun _ _ _ h => h) (by kernel_rfl) ?_ (by assumption) ?_
      rotate_left 1
      · intro w hSw; (try dsimp only at hSw); go_simp; (try with_reducible rfl)
      try simp only [Act.put, List.setIfInBounds_toArray, List.set_cons_zero, List.set_cons_succ]
      refine take_run (i := 28) (d := (some 53)) (oi := _) (v := ?_) rfl rfl (by kernel_rfl) (by kernel_rfl) (by kernel_rfl) (fun _ _ _ h => h) (by kernel_rfl) ?_ (by assumption) ?_
      rotate_left 1
      · intro w hSw; (try dsimp only at hSw); go_simp; (try with_reducible rfl)
      try simp only [Act.put, List.setIfInBounds_toArray, List.set_cons_zero, List.set_cons_succ]
      refine take_run (i := 29) (d := (some 54)) (oi := _) (v := ?_) rfl rfl (by kernel_rfl) (by kernel_rfl) (by kernel_rfl) (fun _ _ _ h => h) (by kernel_rfl) ?_ (by assumption) ?_
      rotate_left 1
      · intro w hSw; (try dsimp only at hSw); go_simp; (try with_reducible rfl)
      try simp only [Act.put, List.setIfInBounds_toArray, List.set_cons_zero, List.set_cons_succ]
      refine take_run (i := 30) (d := (some 55)) (oi := _) (v := ?_) rfl rfl (by kernel_rfl) (by kernel_rfl) (by kernel_rfl) (fun _ _ _ h => h) (by kernel_rfl) ?_ (by assumption) ?_
      rotate_left 1
      · intro w hSw; (try dsimp only at hSw); go_simp; (try with_reducible rfl)
      try simp only [Act.put, List.setIfInBounds_toArray, List.set_cons_zero, List.set_cons_succ]
      refine take_run (i := 31) (d := (some 56)) (oi := _) (v := ?_) rfl rfl (by kernel_rfl) (by kernel_rfl) (by kernel_rfl) (fun _ _ _ h => h) (by kernel_rfl) ?_ (by assumption) ?_
      rotate_left 1
      · intro w hSw; (try dsimp only at hSw); go_simp; (try with_reducible rfl)
      try simp only [Act.put, List.setIfInBounds_toArray, List.set_cons_zero, List.set_cons_succ]
      refine wpAnyH_ready (rs := [32]) (by kernel_rfl) (by simp) ?_
      refine AllReadyH.cons (o := _) rfl (fun K hK => ?_) AllReadyH.nil
      go_simp
      (first         | (go_at_call 22; have hq := And.left ‹Ext W3 _ ∧ _›; (with_reducible refine (Like_any a a _ _ W3 _ (by assumption) (HA.out _ (x03.trans (by assumption))) (HA.out _ (x03.trans (by assumption)))).mono ?_); rintro e w' ⟨rfl, hx'⟩)         | (go_at_call 22; have hq := And.left ‹Ext W3 _ ∧ _›; (with_reducible refine (Like_any a b _ _ W3 _ (by assumption) (HA.out _ (x03.trans (by assumption))) (HB.out _ (x03.trans (by assumption)))).mono ?_); rintro e w' ⟨rfl, hx'⟩)         | (go_at_call 22; have hq := And.left ‹Ext W3 _ ∧ _›; (with_reducible refine (Like_any b a _ _ W3 _ (by assumption) (HB.out _ (x03.trans (by assumption))) (HA.out _ (x03.trans (by assumption)))).mono ?_); rintro e w' ⟨rfl, hx'⟩)         | (go_at_call 22; have hq := And.left ‹Ext W3 _ ∧ _›; (with_reducible refine (Like_any b c _ _ W3 _ (by assumption) (HB.out _ (x03.trans (by assumption))) (HC.out _ (x03.trans (by assumption)))).mono ?_); rintro e w' ⟨rfl, hx'⟩)         | (go_at_call 22; have hq := And.left ‹Ext W3 _ ∧ _›; (with_reducible refine (Like_any a c _ _ W3 _ (by assumption) (HA.out _ (x03.trans (by assumption))) (HC.out _ (x03.trans (by assumption)))).mono ?_); rintro e w' ⟨rfl, hx'⟩)         | (go_at_call 18; have hq := And.left ‹Ext W3 _ ∧ _›; (with_reducible refine (Same_any a b _ _ W3 _ (by assumption) (HA.out _ (x03.trans (by assumption))) (HB.out _ (x03.trans (by assumption)))).mono ?_); rintro e w' ⟨rfl, hx'⟩))
      go_wp2_with fail
      refine hK.out _ _ ?_ (fun hHeld2 => ?_)
      · (try dsimp only); (first | exact MK.out _ hx' | exact MK.out _ hx'.drew | exact MK.out _ (by assumption) | assumption | go_keep)
      clear hK K hHeld
      have hHeld := hHeld2
      clear hHeld2
      try simp only [Act.put, List.setIfInBounds_toArray, List.set_cons_zero, List.set_cons_succ]
      refine take_run (i := 33) (d := (some 58)) (oi := _) (v := ?_) rfl rfl (by kernel_rfl) (by kernel_rfl) (by kernel_rfl) (fun _ _ _ h => h) (by kernel_rfl) ?_ (by assumption) ?_
      rotate_left 1
      · intro w hSw; (try dsimp only at hSw); go_simp; (try with_reducible rfl)
      try simp only [Act.put, List.setIfInBounds_toArray, List.set_cons_zero, List.set_cons_succ]
      refine take_skip (i := 34) (d := (some 59)) (oi := _) rfl rfl (by kernel_rfl) (by kernel_rfl) (by kernel_rfl) (fun _ _ _ h => h) (by kernel_rfl) (by assumption) ?_
      try simp only [Act.put, List.setIfInBounds_toArray, List.set_cons_zero, List.set_cons_succ]
      refine take_skip (i := 35) (d := (some 60)) (oi := _) rfl rfl (by kernel_rfl) (by kernel_rfl) (by kernel_rfl) (fun _ _ _ h => h) (by kernel_rfl) (by assumption) ?_
      try simp only [Act.put, List.setIfInBounds_toArray, List.set_cons_zero, List.set_cons_succ]
      refine take_skip (i := 36) (d := (some 61)) (oi := _) rfl rfl (by kernel_rfl) (by kernel_rfl) (by kernel_rfl) (fun _ _ _ h => h) (by kernel_rfl) (by assumption) ?_
      try simp only [Act.put, List.setIfInBounds_toArray, List.set_cons_zero, List.set_cons_succ]
      refine take_skip (i := 37) (d := (some 62)) (oi := _) rfl rfl (by kernel_rfl) (by kernel_rfl) (by kernel_rfl) (fun _ _ _ h => h) (by kernel_rfl) (by assumption) ?_
      try simp only [Act.put, List.setIfInBounds_toArray, List.set_cons_zero, List.set_cons_succ]
      refine take_run (i := 38) (d := (some 63)) (oi := _) (v := ?_) rfl rfl (by kernel_rfl) (by kernel_rfl) (by kernel_rfl) (fun _ _ _ h => h) (by kernel_rfl) ?_ (by assumption) ?_
      rotate_left 1
      · intro w hSw; (try dsimp only at hSw); go_simp; (try with_reducible rfl)
      try simp only [Act.put, List.setIfInBounds_toArray, List.set_cons_zero, List.set_cons_succ]
      refine take_run (i := 39) (d := (some 64)) (oi := _) (v := ?_) rfl rfl (by kernel_rfl) (by kernel_rfl) (by kernel_rfl) (fun _ _ _ h => h) (by kernel_rfl) ?_ (by assumption) ?_
      rotate_left 1
      · intro w hSw; (try dsimp only at hSw); go_simp; (try with_reducible rfl)
      try simp only [Act.put, List.setIfInBounds_toArray, List.set_cons_zero, List.set_cons_succ]
      refine wpAnyH_done (by kernel_rfl) ?_ _
      go_wp2_with fail
      go_meet
      exact ⟨rfl, by assumption⟩
    · refine wp_region_held_drew (S := (fun w' => Ext W3 w' ∧ w'.cell? ⟨W.heap.size, 0, none⟩ = some (.int .i8 a.kind) ∧ w'.cell? ⟨W.heap.size, 1, none⟩ = some (.int .u64 a.r0) ∧ w'.cell? ⟨W.heap.size, 2, none⟩ = some ac ∧ w'.cell? ⟨W.heap.size, 3, none⟩ = some at' ∧ w'.cell? ⟨W.heap.size, 4, none⟩ = some (.int .i64 a.left) ∧ w'.cell? ⟨W.heap.size + 1, 0, none⟩ = some (.int .i8 b.kind) ∧ w'.cell? ⟨W.heap.size + 1, 1, none⟩ = some (.int .u64 b.r0) ∧ w'.cell? ⟨W.heap.size + 1, 2, none⟩ = some bc ∧ w'.cell? ⟨W.heap.size + 1, 3, none⟩ = some bt ∧ w'.cell? ⟨W.heap.size + 1, 4, none⟩ = some (.int .i64 b.left) ∧ w'.cell? ⟨W.heap.size + 1 + 1, 0, none⟩ = some (.int .i8 c.kind) ∧ w'.cell? ⟨W.heap.size + 1 + 1, 1, none⟩ = some (.int .u64 c.r0) ∧ w'.cell? ⟨W.heap.size + 1 + 1, 2, none⟩ = some cc ∧ w'.cell? ⟨W.heap.size + 1 + 1, 3, none⟩ = some ct ∧ w'.cell? ⟨W.heap.size + 1 + 1, 4, none⟩ = some (.int .i64 c.left))) (by kernel_rfl) ?_ (fun hHeld => ?_)
      · (try dsimp only); (first | exact MK.out _ hx' | exact MK.out _ hx'.drew | exact MK.out _ (by assumption) | assumption | go_keep)
      refine take_run (i := 0) (d := (some 25)) (oi := _) (v := ?_) rfl rfl (by kernel_rfl) (by kernel_rfl) (by kernel_rfl) (fun _ _ _ h => h) (by kernel_rfl) ?_ (by assumption) ?_
      rotate_left 1
      · intro w hSw; (try dsimp only at hSw); go_simp; (try with_reducible rfl)
      try simp only [Act.put, List.setIfInBounds_toArray, List.set_cons_zero, List.set_cons_succ]
      refine take_run (i := 1) (d := (some 26)) (oi := _) (v := ?_) rfl rfl (by kernel_rfl) (by kernel_rfl) (by kernel_rfl) (fun _ _ _ h => h) (by kernel_rfl) ?_ (by assumption) ?_
      rotate_left 1
      · intro w hSw; (try dsimp only at hSw); go_simp; (try with_reducible rfl)
      try simp only [Act.put, List.setIfInBounds_toArray, List.set_cons_zero, List.set_cons_succ]
      refine wpAnyH_ready (rs := [2]) (by kernel_rfl) (by simp) ?_
      refine AllReadyH.cons (o := _) rfl (fun K hK => ?_) AllReadyH.nil
      go_simp
      (first         | (go_at_call 22; have hq := And.left ‹Ext W3 _ ∧ _›; (with_reducible refine (Like_any a a _ _ W3 _ (by assumption) (HA.out _ (x03.trans (by assumption))) (HA.out _ (x03.trans (by assumption)))).mono ?_); rintro e w' ⟨rfl, hx'⟩)         | (go_at_call 22; have hq := And.left ‹Ext W3 _ ∧ _›; (with_reducible refine (Like_any a b _ _ W3 _ (by assumption) (HA.out _ (x03.trans (by assumption))) (HB.out _ (x03.trans (by assumption)))).mono ?_); rintro e w' ⟨rfl, hx'⟩)         | (go_at_call 22; have hq := And.left ‹Ext W3 _ ∧ _›; (with_reducible refine (Like_any b a _ _ W3 _ (by assumption) (HB.out _ (x03.trans (by assumption))) (HA.out _ (x03.trans (by assumption)))).mono ?_); rintro e w' ⟨rfl, hx'⟩)         | (go_at_call 22; have hq := And.left ‹Ext W3 _ ∧ _›; (with_reducible refine (Like_any b c _ _ W3 _ (by assumption) (HB.out _ (x03.trans (by assumption))) (HC.out _ (x03.trans (by assumption)))).mono ?_); rintro e w' ⟨rfl, hx'⟩)         | (go_at_call 22; have hq := And.left ‹Ext W3 _ ∧ _›; (with_reducible refine (Like_any a c _ _ W3 _ (by assumption) (HA.out _ (x03.trans (by assumption))) (HC.out _ (x03.trans (by assumption)))).mono ?_); rintro e w' ⟨rfl, hx'⟩)         | (go_at_call 18; have hq := And.left ‹Ext W3 _ ∧ _›; (with_reducible refine (Same_any a b _ _ W3 _ (by assumption) (HA.out _ (x03.trans (by assumption))) (HB.out _ (x03.trans (by assumption)))).mono ?_); rintro e w' ⟨rfl, hx'⟩))
      go_wp2_with fail
      refine hK.out _ _ ?_ (fun hHeld2 => ?_)
      · (try dsimp only); (first | exact MK.out _ hx' | exact MK.out _ hx'.drew | exact MK.out _ (by assumption) | assumption | go_keep)
      clear hK K hHeld
      have hHeld := hHeld2
      clear hHeld2
      try simp only [Act.put, List.setIfInBounds_toArray, List.set_cons_zero, List.set_cons_succ]
      refine take_run (i := 3) (d := (some 28)) (oi := _) (v := ?_) rfl rfl (by kernel_rfl) (by kernel_rfl) (by kernel_rfl) (fun _ _ _ h => h) (by kernel_rfl) ?_ (by assumption) ?_
      rotate_left 1
      · intro w hSw; (try dsimp only at hSw); go_simp; (try with_reducible rfl)
      try simp only [Act.put, List.setIfInBounds_toArray, List.set_cons_zero, List.set_cons_succ]
      refine take_run (i := 4) (d := (some 29)) (oi := _) (v := ?_) rfl rfl (by kernel_rfl) (by kernel_rfl) (by kernel_rfl) (fun _ _ _ h => h) (by kernel_rfl) ?_ (by assumption) ?_
      rotate_left 1
      · intro w hSw; (try dsimp only at hSw); go_simp; (try with_reducible rfl)
      try simp only [Act.put, List.setIfInBounds_toArray, List.set_cons_zero, List.set_cons_succ]
      refine take_run (i := 5) (d := (some 30)) (oi := _) (v := ?_) rfl rfl (by kernel_rfl) (by kernel_rfl) (by kernel_rfl) (fun _ _ _ h => h) (by kernel_rfl) ?_ (by assumption) ?_
      rotate_left 1
      · intro w hSw; (try dsimp only at hSw); go_simp; (try with_reducible rfl)
      try simp only [Act.put, List.setIfInBounds_toArray, List.set_cons_zero, List.set_cons_succ]
      refine take_run (i := 6) (d := (some 31)) (oi := _) (v := ?_) rfl rfl (by kernel_rfl) (by kernel_rfl) (by kernel_rfl) (fun _ _ _ h => h) (by kernel_rfl) ?_ (by assumption) ?_
      rotate_left 1
      · intro w hSw; (try dsimp only at hSw); go_simp; (try with_reducible rfl)
      try simp only [Act.put, List.setIfInBounds_toArray, List.set_cons_zero, List.set_cons_succ]
      refine take_run (i := 8) (d := (some 33)) (oi := _) (v := ?_) rfl rfl (by kernel_rfl) (by kernel_rfl) (by kernel_rfl) (fun _ _ _ h => h) (by kernel_rfl) ?_ (by assumption) ?_
      rotate_left 1
      · intro w hSw; (try dsimp only at hSw); go_simp; (try with_reducible rfl)
      try simp only [Act.put, List.setIfInBounds_toArray, List.set_cons_zero, List.set_cons_succ]
      refine take_run (i := 9) (d := (some 34)) (oi := _) (v := ?_) rfl rfl (by kernel_rfl) (by kernel_rfl) (by kernel_rfl) (fun _ _ _ h => h) (by kernel_rfl) ?_ (by assumption) ?_
      rotate_left 1
      · intro w hSw; (try dsimp only at hSw); go_simp; (try with_reducible rfl)
      try simp only [Act.put, List.setIfInBounds_toArray, List.set_cons_zero, List.set_cons_succ]
      refine wpAnyH_ready (rs := [7]) (by kernel_rfl) (by simp) ?_
      refine AllReadyH.cons (o := _) rfl (fun K hK => ?_) AllReadyH.nil
      go_simp
      (first         | (go_at_call 22; have hq := And.left ‹Ext W3 _ ∧ _›; (with_reducible refine (Like_any a a _ _ W3 _ (by assumption) (HA.out _ (x03.trans (by assumption))) (HA.out _ (x03.trans (by assumption)))).mono ?_); rintro e w' ⟨rfl, hx'⟩)         | (go_at_call 22; have hq := And.left ‹Ext W3 _ ∧ _›; (with_reducible refine (Like_any a b _ _ W3 _ (by assumption) (HA.out _ (x03.trans (by assumption))) (HB.out _ (x03.trans (by assumption)))).mono ?_); rintro e w' ⟨rfl, hx'⟩)         | (go_at_call 22; have hq := And.left ‹Ext W3 _ ∧ _›; (with_reducible refine (Like_any b a _ _ W3 _ (by assumption) (HB.out _ (x03.trans (by assumption))) (HA.out _ (x03.trans (by assumption)))).mono ?_); rintro e w' ⟨rfl, hx'⟩)         | (go_at_call 22; have hq := And.left ‹Ext W3 _ ∧ _›; (with_reducible refine (Like_any b c _ _ W3 _ (by assumption) (HB.out _ (x03.trans (by assumption))) (HC.out _ (x03.trans (by assumption)))).mono ?_); rintro e w' ⟨rfl, hx'⟩)         | (go_at_call 22; have hq := And.left ‹Ext W3 _ ∧ _›; (with_reducible refine (Like_any a c _ _ W3 _ (by assumption) (HA.out _ (x03.trans (by assumption))) (HC.out _ (x03.trans (by assumption)))).mono ?_); rintro e w' ⟨rfl, hx'⟩)         | (go_at_call 18; have hq := And.left ‹Ext W3 _ ∧ _›; (with_reducible refine (Same_any a b _ _ W3 _ (by assumption) (HA.out _ (x03.trans (by assumption))) (HB.out _ (x03.trans (by assumption)))).mono ?_); rintro e w' ⟨rfl, hx'⟩))
      go_wp2_with fail
      refine hK.out _ _ ?_ (fun hHeld2 => ?_)
      · (try dsimp only); (first | exact MK.out _ hx' | exact MK.out _ hx'.drew | exact MK.out _ (by assumption) | assumption | go_keep)
      clear hK K hHeld
      have hHeld := hHeld2
      clear hHeld2
      try simp only [Act.put, List.setIfInBounds_toArray, List.set_cons_zero, List.set_cons_succ]
      refine wpAnyH_ready (rs := [10]) (by kernel_rfl) (by simp) ?_
      refine AllReadyH.cons (o := _) rfl (fun K hK => ?_) AllReadyH.nil
      go_simp
      (first         | (go_at_call 22; have hq := And.left ‹Ext W3 _ ∧ _›; (with_reducible refine (Like_any a a _ _ W3 _ (by assumption) (HA.out _ (x03.trans (by assumption))) (HA.out _ (x03.trans (by assumption)))).mono ?_); rintro e w' ⟨rfl, hx'⟩)         | (go_at_call 22; have hq := And.left ‹Ext W3 _ ∧ _›; (with_reducible refine (Like_any a b _ _ W3 _ (by assumption) (HA.out _ (x03.trans (by assumption))) (HB.out _ (x03.trans (by assumption)))).mono ?_); rintro e w' ⟨rfl, hx'⟩)         | (go_at_call 22; have hq := And.left ‹Ext W3 _ ∧ _›; (with_reducible refine (Like_any b a _ _ W3 _ (by assumption) (HB.out _ (x03.trans (by assumption))) (HA.out _ (x03.trans (by assumption)))).mono ?_); rintro e w' ⟨rfl, hx'⟩)         | (go_at_call 22; have hq := And.left ‹Ext W3 _ ∧ _›; (with_reducible refine (Like_any b c _ _ W3 _ (by assumption) (HB.out _ (x03.trans (by assumption))) (HC.out _ (x03.trans (by assumption)))).mono ?_); rintro e w' ⟨rfl, hx'⟩)         | (go_at_call 22; have hq := And.left ‹Ext W3 _ ∧ _›; (with_reducible refine (Like_any a c _ _ W3 _ (by assumption) (HA.out _ (x03.trans (by assumption))) (HC.out _ (x03.trans (by assumption)))).mono ?_); rintro e w' ⟨rfl, hx'⟩)         | (go_at_call 18; have hq := And.left ‹Ext W3 _ ∧ _›; (with_reducible refine (Same_any a b _ _ W3 _ (by assumption) (HA.out _ (x03.trans (by assumption))) (HB.out _ (x03.trans (by assumption)))).mono ?_); rintro e w' ⟨rfl, hx'⟩))
      go_wp2_with fail
      refine hK.out _ _ ?_ (fun hHeld2 => ?_)
      · (try dsimp only); (first | exact MK.out _ hx' | exact MK.out _ hx'.drew | exact MK.out _ (by assumption) | assumption | go_keep)
      clear hK K hHeld
      have hHeld := hHeld2
      clear hHeld2
      try simp only [Act.put, List.setIfInBounds_toArray, List.set_cons_zero, List.set_cons_succ]
      refine take_run (i := 11) (d := (some 36)) (oi := _) (v := ?_) rfl rfl (by kernel_rfl) (by kernel_rfl) (by kernel_rfl) (fun _ _ _ h => h) (by kernel_rfl) ?_ (by assumption) ?_
      rotate_left 1
      · intro w hSw; (try dsimp only at hSw); go_simp; (try with_reducible rfl)
      try simp only [Act.put, List.setIfInBounds_toArray, List.set_cons_zero, List.set_cons_succ]
      refine take_run (i := 12) (d := (some 37)) (oi := _) (v := ?_) rfl rfl (by kernel_rfl) (by kernel_rfl) (by kernel_rfl) (fun _ _ _ h => h) (by kernel_rfl) ?_ (by assumption) ?_
      rotate_left 1
      · intro w hSw; (try dsimp only at hSw); go_simp; (try with_reducible rfl)
      try simp only [Act.put, List.setIfInBounds_toArray, List.set_cons_zero, List.set_cons_succ]
      refine take_run (i := 13) (d := (some 38)) (oi := _) (v := ?_) rfl rfl (by kernel_rfl) (by kernel_rfl) (by kernel_rfl) (fun _ _ _ h => h) (by kernel_rfl) ?_ (by assumption) ?_
      rotate_left 1
      · intro w hSw; (try dsimp only at hSw); go_simp; (try with_reducible rfl)
      try simp only [Act.put, List.setIfInBounds_toArray, List.set_cons_zero, List.set_cons_succ]
      refine take_run (i := 14) (d := (some 39)) (oi := _) (v := ?_) rfl rfl (by kernel_rfl) (by kernel_rfl) (by kernel_rfl) (fun _ _ _ h => h) (by kernel_rfl) ?_ (by assumption) ?_
      rotate_left 1
      · intro w hSw; (try dsimp only at hSw); go_simp; (try with_reducible rfl)
      try simp only [Act.put, List.setIfInBounds_toArray, List.set_cons_zero, List.set_cons_succ]
      refine take_run (i := 15) (d := (some 40)) (oi := _) (v := ?_) rfl rfl (by kernel_rfl) (by kernel_rfl) (by kernel_rfl) (fun _ _ _ h => h) (by kernel_rfl) ?_ (by assumption) ?_
      rotate_left 1
      · intro w hSw; (try dsimp only at hSw); go_simp; (try with_reducible rfl)
      try simp only [Act.put, List.setIfInBounds_toArray, List.set_cons_zero, List.set_cons_succ]
      refine wpAnyH_ready (rs := [16]) (by kernel_rfl) (by simp) ?_
      refine AllReadyH.cons (o := _) rfl (fun K hK => ?_) AllReadyH.nil
      go_simp
      (first         | (go_at_call 22; have hq := And.left ‹Ext W3 _ ∧ _›; (with_reducible refine (Like_any a a _ _ W3 _ (by assumption) (HA.out _ (x03.trans (by assumption))) (HA.out _ (x03.trans (by assumption)))).mono ?_); rintro e w' ⟨rfl, hx'⟩)         | (go_at_call 22; have hq := And.left ‹Ext W3 _ ∧ _›; (with_reducible refine (Like_any a b _ _ W3 _ (by assumption) (HA.out _ (x03.trans (by assumption))) (HB.out _ (x03.trans (by assumption)))).mono ?_); rintro e w' ⟨rfl, hx'⟩)         | (go_at_call 22; have hq := And.left ‹Ext W3 _ ∧ _›; (with_reducible refine (Like_any b a _ _ W3 _ (by assumption) (HB.out _ (x03.trans (by assumption))) (HA.out _ (x03.trans (by assumption)))).mono ?_); rintro e w' ⟨rfl, hx'⟩)         | (go_at_call 22; have hq := And.left ‹Ext W3 _ ∧ _›; (with_reducible refine (Like_any b c _ _ W3 _ (by assumption) (HB.out _ (x03.trans (by assumption))) (HC.out _ (x03.trans (by assumption)))).mono ?_); rintro e w' ⟨rfl, hx'⟩)         | (go_at_call 22; have hq := And.left ‹Ext W3 _ ∧ _›; (with_reducible refine (Like_any a c _ _ W3 _ (by assumption) (HA.out _ (x03.trans (by assumption))) (HC.out _ (x03.trans (by assumption)))).mono ?_); rintro e w' ⟨rfl, hx'⟩)         | (go_at_call 18; have hq := And.left ‹Ext W3 _ ∧ _›; (with_reducible refine (Same_any a b _ _ W3 _ (by assumption) (HA.out _ (x03.trans (by assumption))) (HB.out _ (x03.trans (by assumption)))).mono ?_); rintro e w' ⟨rfl, hx'⟩))
      go_wp2_with fail
      refine hK.out _ _ ?_ (fun hHeld2 => ?_)
      · (try dsimp only); (first | exact MK.out _ hx' | exact MK.out _ hx'.drew | exact MK.out _ (by assumption) | assumption | go_keep)
      clear hK K hHeld
      have hHeld := hHeld2
      clear hHeld2
      try simp only [Act.put, List.setIfInBounds_toArray, List.set_cons_zero, List.set_cons_succ]
      refine take_run (i := 17) (d := (some 42)) (oi := _) (v := ?_) rfl rfl (by kernel_rfl) (by kernel_rfl) (by kernel_rfl) (fun _ _ _ h => h) (by kernel_rfl) ?_ (by assumption) ?_
      rotate_left 1
      · intro w hSw; (try dsimp only at hSw); go_simp; (try with_reducible rfl)
      try simp only [Act.put, List.setIfInBounds_toArray, List.set_cons_zero, List.set_cons_succ]
      refine take_run (i := 18) (d := (some 43)) (oi := _) (v := ?_) rfl rfl (by kernel_rfl) (by kernel_rfl) (by kernel_rfl) (fun _ _ _ h => h) (by kernel_rfl) ?_ (by assumption) ?_
      rotate_left 1
      · intro w hSw; (try dsimp only at hSw); go_simp; (try with_reducible rfl)
      try simp only [Act.put, List.setIfInBounds_toArray, List.set_cons_zero, List.set_cons_succ]
      refine take_run (i := 19) (d := (some 44)) (oi := _) (v := ?_) rfl rfl (by kernel_rfl) (by kernel_rfl) (by kernel_rfl) (fun _ _ _ h => h) (by kernel_rfl) ?_ (by assumption) ?_
      rotate_left 1
      · intro w hSw; (try dsimp only at hSw); go_simp; (try with_reducible rfl)
      try simp only [Act.put, List.setIfInBounds_toArray, List.set_cons_zero, List.set_cons_succ]
      refine wpAnyH_ready (rs := [20]) (by kernel_rfl) (by simp) ?_
      refine AllReadyH.cons (o := _) rfl (fun K hK => ?_) AllReadyH.nil
      go_simp
      (first         | (go_at_call 22; have hq := And.left ‹Ext W3 _ ∧ _›; (with_reducible refine (Like_any a a _ _ W3 _ (by assumption) (HA.out _ (x03.trans (by assumption))) (HA.out _ (x03.trans (by assumption)))).mono ?_); rintro e w' ⟨rfl, hx'⟩)         | (go_at_call 22; have hq := And.left ‹Ext W3 _ ∧ _›; (with_reducible refine (Like_any a b _ _ W3 _ (by assumption) (HA.out _ (x03.trans (by assumption))) (HB.out _ (x03.trans (by assumption)))).mono ?_); rintro e w' ⟨rfl, hx'⟩)         | (go_at_call 22; have hq := And.left ‹Ext W3 _ ∧ _›; (with_reducible refine (Like_any b a _ _ W3 _ (by assumption) (HB.out _ (x03.trans (by assumption))) (HA.out _ (x03.trans (by assumption)))).mono ?_); rintro e w' ⟨rfl, hx'⟩)         | (go_at_call 22; have hq := And.left ‹Ext W3 _ ∧ _›; (with_reducible refine (Like_any b c _ _ W3 _ (by assumption) (HB.out _ (x03.trans (by assumption))) (HC.out _ (x03.trans (by assumption)))).mono ?_); rintro e w' ⟨rfl, hx'⟩)         | (go_at_call 22; have hq := And.left ‹Ext W3 _ ∧ _›; (with_reducible refine (Like_any a c _ _ W3 _ (by assumption) (HA.out _ (x03.trans (by assumption))) (HC.out _ (x03.trans (by assumption)))).mono ?_); rintro e w' ⟨rfl, hx'⟩)         | (go_at_call 18; have hq := And.left ‹Ext W3 _ ∧ _›; (with_reducible refine (Same_any a b _ _ W3 _ (by assumption) (HA.out _ (x03.trans (by assumption))) (HB.out _ (x03.trans (by assumption)))).mono ?_); rintro e w' ⟨rfl, hx'⟩))
      go_wp2_with fail
      refine hK.out _ _ ?_ (fun hHeld2 => ?_)
      · (try dsimp only); (first | exact MK.out _ hx' | exact MK.out _ hx'.drew | exact MK.out _ (by assumption) | assumption | go_keep)
      clear hK K hHeld
      have hHeld := hHeld2
      clear hHeld2
      try simp only [Act.put, List.setIfInBounds_toArray, List.set_cons_zero, List.set_cons_succ]
      refine take_run (i := 21) (d := (some 46)) (oi := _) (v := ?_) rfl rfl (by kernel_rfl) (by kernel_rfl) (by kernel_rfl) (fun _ _ _ h => h) (by kernel_rfl) ?_ (by assumption) ?_
      rotate_left 1
      · intro w hSw; (try dsimp only at hSw); go_simp; (try with_reducible rfl)
      try simp only [Act.put, List.setIfInBounds_toArray, List.set_cons_zero, List.set_cons_succ]
      refine take_run (i := 22) (d := (some 47)) (oi := _) (v := ?_) rfl rfl (by kernel_rfl) (by kernel_rfl) (by kernel_rfl) (fun _ _ _ h => h) (by kernel_rfl) ?_ (by assumption) ?_
      rotate_left 1
      · intro w hSw; (try dsimp only at hSw); go_simp; (try with_reducible rfl)
      try simp only [Act.put, List.setIfInBounds_toArray, List.set_cons_zero, List.set_cons_succ]
      refine take_skip (i := 23) (d := (some 48)) (oi := _) rfl rfl (by kernel_rfl) (by kernel_rfl) (by kernel_rfl) (fun _ _ _ h => h) (by kernel_rfl) (by assumption) ?_
      try simp only [Act.put, List.setIfInBounds_toArray, List.set_cons_zero, List.set_cons_succ]
      refine take_skip (i := 24) (d := (some 49)) (oi := _) rfl rfl (by kernel_rfl) (by kernel_rfl) (by kernel_rfl) (fun _ _ _ h => h) (by kernel_rfl) (by assumption) ?_
      try simp only [Act.put, List.setIfInBounds_toArray, List.set_cons_zero, List.set_cons_succ]
      refine take_skip (i := 25) (d := (some 50)) (oi := _) rfl rfl (by kernel_rfl) (by kernel_rfl) (by kernel_rfl) (fun _ _ _ h => h) (by kernel_rfl) (by assumption) ?_
      try simp only [Act.put, List.setIfInBounds_toArray, List.set_cons_zero, List.set_cons_succ]
      refine take_skip (i := 26) (d := (some 51)) (oi := _) rfl rfl (by kernel_rfl) (by kernel_rfl) (by kernel_rfl) (fun _ _ _ h => h) (by kernel_rfl) (by assumption) ?_
      try simp only [Act.put, List.setIfInBounds_toArray, List.set_cons_zero, List.set_cons_succ]
      refine take_run (i := 27) (d := (some 52)) (oi := _) (v := ?_) rfl rfl (by kernel_rfl) (by kernel_rfl) (by kernel_rfl) (fun _ _ _ h => h) (by kernel_rfl) ?_ (by assumption) ?_
      rotate_left 1
      · intro w hSw; (try dsimp only at hSw); go_simp; (try with_reducible rfl)
      try simp only [Act.put, List.setIfInBounds_toArray, List.set_cons_zero, List.set_cons_succ]
      refine take_run (i := 28) (d := (some 53)) (oi := _) (v := ?_) rfl rfl (by kernel_rfl) (by kernel_rfl) (by kernel_rfl) (fun _ _ _ h => h) (by kernel_rfl) ?_ (by assumption) ?_
      rotate_left 1
      · intro w hSw; (try dsimp only at hSw); go_simp; (try with_reducible rfl)
      try simp only [Act.put, List.setIfInBounds_toArray, List.set_cons_zero, List.set_cons_succ]
      refine take_run (i := 29) (d := (some 54)) (oi := _) (v := ?_) rfl rfl (by kernel_rfl) (by kernel_rfl) (by kernel_rfl) (fun _ _ _ h => h) (by kernel_rfl) ?_ (by assumption) ?_
      rotate_left 1
      · intro w hSw; (try dsimp only at hSw); go_simp; (try with_reducible rfl)
      try simp only [Act.put, List.setIfInBounds_toArray, List.set_cons_zero, List.set_cons_succ]
      refine take_run (i := 30) (d := (some 55)) (oi := _) (v := ?_) rfl rfl (by kernel_rfl) (by kernel_rfl) (by kernel_rfl) (fun _ _ _ h => h) (by kernel_rfl) ?_ (by assumption) ?_
      rotate_left 1
      · intro w hSw; (try dsimp only at hSw); go_simp; (try with_reducible rfl)
      try simp only [Act.put, List.setIfInBounds_toArray, List.set_cons_zero, List.set_cons_succ]
      refine take_run (i := 31) (d := (some 56)) (oi := _) (v := ?_) rfl rfl (by kernel_rfl) (by kernel_rfl) (by kernel_rfl) (fun _ _ _ h => h) (by kernel_rfl) ?_ (by assumption) ?_
      rotate_left 1
      · intro w hSw; (try dsimp only at hSw); go_simp; (try with_reducible rfl)
      try simp only [Act.put, List.setIfInBounds_toArray, List.set_cons_zero, List.set_cons_succ]
      refine wpAnyH_ready (rs := [32]) (by kernel_rfl) (by simp) ?_
      refine AllReadyH.cons (o := _) rfl (fun K hK => ?_) AllReadyH.nil
      go_simp
      (first         | (go_at_call 22; have hq := And.left ‹Ext W3 _ ∧ _›; (with_reducible refine (Like_any a a _ _ W3 _ (by assumption) (HA.out _ (x03.trans (by assumption))) (HA.out _ (x03.trans (by assumption)))).mono ?_); rintro e w' ⟨rfl, hx'⟩)         | (go_at_call 22; have hq := And.left ‹Ext W3 _ ∧ _›; (with_reducible refine (Like_any a b _ _ W3 _ (by assumption) (HA.out _ (x03.trans (by assumption))) (HB.out _ (x03.trans (by assumption)))).mono ?_); rintro e w' ⟨rfl, hx'⟩)         | (go_at_call 22; have hq := And.left ‹Ext W3 _ ∧ _›; (with_reducible refine (Like_any b a _ _ W3 _ (by assumption) (HB.out _ (x03.trans (by assumption))) (HA.out _ (x03.trans (by assumption)))).mono ?_); rintro e w' ⟨rfl, hx'⟩)         | (go_at_call 22; have hq := And.left ‹Ext W3 _ ∧ _›; (with_reducible refine (Like_any b c _ _ W3 _ (by assumption) (HB.out _ (x03.trans (by assumption))) (HC.out _ (x03.trans (by assumption)))).mono ?_); rintro e w' ⟨rfl, hx'⟩)         | (go_at_call 22; have hq := And.left ‹Ext W3 _ ∧ _›; (with_reducible refine (Like_any a c _ _ W3 _ (by assumption) (HA.out _ (x03.trans (by assumption))) (HC.out _ (x03.trans (by assumption)))).mono ?_); rintro e w' ⟨rfl, hx'⟩)         | (go_at_call 18; have hq := And.left ‹Ext W3 _ ∧ _›; (with_reducible refine (Same_any a b _ _ W3 _ (by assumption) (HA.out _ (x03.trans (by assumption))) (HB.out _ (x03.trans (by assumption)))).mono ?_); rintro e w' ⟨rfl, hx'⟩))
      go_wp2_with fail
      refine hK.out _ _ ?_ (fun hHeld2 => ?_)
      · (try dsimp only); (first | exact MK.out _ hx' | exact MK.out _ hx'.drew | exact MK.out _ (by assumption) | assumption | go_keep)
      clear hK K hHeld
      have hHeld := hHeld2
      clear hHeld2
      try simp only [Act.put, List.setIfInBounds_toArray, List.set_cons_zero, List.set_cons_succ]
      refine take_run (i := 33) (d := (some 58)) (oi := _) (v := ?_) rfl rfl (by kernel_rfl) (by kernel_rfl) (by kernel_rfl) (fun _ _ _ h => h) (by kernel_rfl) ?_ (by assumption) ?_
      rotate_left 1
      · intro w hSw; (try dsimp only at hSw); go_simp; (try with_reducible rfl)
      try simp only [Act.put, List.setIfInBounds_toArray, List.set_cons_zero, List.set_cons_succ]
      refine take_run (i := 34) (d := (some 59)) (oi := _) (v := ?_) rfl rfl (by kernel_rfl) (by kernel_rfl) (by kernel_rfl) (fun _ _ _ h => h) (by kernel_rfl) ?_ (by assumption) ?_
      rotate_left 1
      · intro w hSw; (try dsimp only at hSw); go_simp; (try with_reducible rfl)
      try simp only [Act.put, List.setIfInBounds_toArray, List.set_cons_zero, List.set_cons_succ]
      refine take_run (i := 35) (d := (some 60)) (oi := _) (v := ?_) rfl rfl (by kernel_rfl) (by kernel_rfl) (by kernel_rfl) (fun _ _ _ h => h) (by kernel_rfl) ?_ (by assumption) ?_
      rotate_left 1
      · intro w hSw; (try dsimp only at hSw); go_simp; (try with_reducible rfl)
      try simp only [Act.put, List.setIfInBounds_toArray, List.set_cons_zero, List.set_cons_succ]
      refine wpAnyH_ready (rs := [36]) (by kernel_rfl) (by simp) ?_
      refine AllReadyH.cons (o := _) rfl (fun K hK => ?_) AllReadyH.nil
      go_simp
      (first         | (go_at_call 22; have hq := And.left ‹Ext W3 _ ∧ _›; (with_reducible refine (Like_any a a _ _ W3 _ (by assumption) (HA.out _ (x03.trans (by assumption))) (HA.out _ (x03.trans (by assumption)))).mono ?_); rintro e w' ⟨rfl, hx'⟩)         | (go_at_call 22; have hq := And.left ‹Ext W3 _ ∧ _›; (with_reducible refine (Like_any a b _ _ W3 _ (by assumption) (HA.out _ (x03.trans (by assumption))) (HB.out _ (x03.trans (by assumption)))).mono ?_); rintro e w' ⟨rfl, hx'⟩)         | (go_at_call 22; have hq := And.left ‹Ext W3 _ ∧ _›; (with_reducible refine (Like_any b a _ _ W3 _ (by assumption) (HB.out _ (x03.trans (by assumption))) (HA.out _ (x03.trans (by assumption)))).mono ?_); rintro e w' ⟨rfl, hx'⟩)         | (go_at_call 22; have hq := And.left ‹Ext W3 _ ∧ _›; (with_reducible refine (Like_any b c _ _ W3 _ (by assumption) (HB.out _ (x03.trans (by assumption))) (HC.out _ (x03.trans (by assumption)))).mono ?_); rintro e w' ⟨rfl, hx'⟩)         | (go_at_call 22; have hq := And.left ‹Ext W3 _ ∧ _›; (with_reducible refine (Like_any a c _ _ W3 _ (by assumption) (HA.out _ (x03.trans (by assumption))) (HC.out _ (x03.trans (by assumption)))).mono ?_); rintro e w' ⟨rfl, hx'⟩)         | (go_at_call 18; have hq := And.left ‹Ext W3 _ ∧ _›; (with_reducible refine (Same_any a b _ _ W3 _ (by assumption) (HA.out _ (x03.trans (by assumption))) (HB.out _ (x03.trans (by assumption)))).mono ?_); rintro e w' ⟨rfl, hx'⟩))
      go_wp2_with fail
      refine hK.out _ _ ?_ (fun hHeld2 => ?_)
      · (try dsimp only); (first | exact MK.out _ hx' | exact MK.out _ hx'.drew | exact MK.out _ (by assumption) | assumption | go_keep)
      clear hK K hHeld
      have hHeld := hHeld2
      clear hHeld2
      try simp only [Act.put, List.setIfInBounds_toArray, List.set_cons_zero, List.set_cons_succ]
      refine take_run (i := 37) (d := (some 62)) (oi := _) (v := ?_) rfl rfl (by kernel_rfl) (by kernel_rfl) (by kernel_rfl) (fun _ _ _ h => h) (by kernel_rfl) ?_ (by assumption) ?_
      rotate_left 1
      · intro w hSw; (try dsimp only at hSw); go_simp; (try with_reducible rfl)
      try simp only [Act.put, List.setIfInBounds_toArray, List.set_cons_zero, List.set_cons_succ]
      refine take_run (i := 38) (d := (some 63)) (oi := _) (v := ?_) rfl rfl (by kernel_rfl) (by kernel_rfl) (by kernel_rfl) (fun _ _ _ h => h) (by kernel_rfl) ?_ (by assumption) ?_
      rotate_left 1
      · intro w hSw; (try dsimp only at hSw); go_simp; (try with_reducible rfl)
      try simp only [Act.put, List.setIfInBounds_toArray, List.set_cons_zero, List.set_cons_succ]
      refine take_run (i := 39) (d := (some 64)) (oi := _) (v := ?_) rfl rfl (by kernel_rfl) (by kernel_rfl) (by kernel_rfl) (fun _ _ _ h => h) (by kernel_rfl) ?_ (by assumption) ?_
      rotate_left 1
      · intro w hSw; (try dsimp only at hSw); go_simp; (try with_reducible rfl)
      try simp only [Act.put, List.setIfInBounds_toArray, List.set_cons_zero, List.set_cons_succ]
      refine wpAnyH_done (by kernel_rfl) ?_ _
      go_wp2_with fail
      go_meet
      exact ⟨rfl, by assumption⟩
    · refine wp_region_held_drew (S := (fun w' => Ext W3 w' ∧ w'.cell? ⟨W.heap.size, 0, none⟩ = some (.int .i8 a.kind) ∧ w'.cell? ⟨W.heap.size, 1, none⟩ = some (.int .u64 a.r0) ∧ w'.cell? ⟨W.heap.size, 2, none⟩ = some ac ∧ w'.cell? ⟨W.heap.size, 3, none⟩ = some at' ∧ w'.cell? ⟨W.heap.size, 4, none⟩ = some (.int .i64 a.left) ∧ w'.cell? ⟨W.heap.size + 1, 0, none⟩ = some (.int .i8 b.kind) ∧ w'.cell? ⟨W.heap.size + 1, 1, none⟩ = some (.int .u64 b.r0) ∧ w'.cell? ⟨W.heap.size + 1, 2, none⟩ = some bc ∧ w'.cell? ⟨W.heap.size + 1, 3, none⟩ = some bt ∧ w'.cell? ⟨W.heap.size + 1, 4, none⟩ = some (.int .i64 b.left) ∧ w'.cell? ⟨W.heap.size + 1 + 1, 0, none⟩ = some (.int .i8 c.kind) ∧ w'.cell? ⟨W.heap.size + 1 + 1, 1, none⟩ = some (.int .u64 c.r0) ∧ w'.cell? ⟨W.heap.size + 1 + 1, 2, none⟩ = some cc ∧ w'.cell? ⟨W.heap.size + 1 + 1, 3, none⟩ = some ct ∧ w'.cell? ⟨W.heap.size + 1 + 1, 4, none⟩ = some (.int .i64 c.left))) (by kernel_rfl) ?_ (fun hHeld => ?_)
      · (try dsimp only); (first | exact MK.out _ hx' | exact MK.out _ hx'.drew | exact MK.out _ (by assumption) | assumption | go_keep)
      refine take_run (i := 0) (d := (some 25)) (oi := _) (v := ?_) rfl rfl (by kernel_rfl) (by kernel_rfl) (by kernel_rfl) (fun _ _ _ h => h) (by kernel_rfl) ?_ (by assumption) ?_
      rotate_left 1
      · intro w hSw; (try dsimp only at hSw); go_simp; (try with_reducible rfl)
      try simp only [Act.put, List.setIfInBounds_toArray, List.set_cons_zero, List.set_cons_succ]
      refine take_run (i := 1) (d := (some 26)) (oi := _) (v := ?_) rfl rfl (by kernel_rfl) (by kernel_rfl) (by kernel_rfl) (fun _ _ _ h => h) (by kernel_rfl) ?_ (by assumption) ?_
      rotate_left 1
      · intro w hSw; (try dsimp only at hSw); go_simp; (try with_reducible rfl)
      try simp only [Act.put, List.setIfInBounds_toArray, List.set_cons_zero, List.set_cons_succ]
      refine wpAnyH_ready (rs := [2]) (by kernel_rfl) (by simp) ?_
      refine AllReadyH.cons (o := _) rfl (fun K hK => ?_) AllReadyH.nil
      go_simp
      (first         | (go_at_call 22; have hq := And.left ‹Ext W3 _ ∧ _›; (with_reducible refine (Like_any a a _ _ W3 _ (by assumption) (HA.out _ (x03.trans (by assumption))) (HA.out _ (x03.trans (by assumption)))).mono ?_); rintro e w' ⟨rfl, hx'⟩)         | (go_at_call 22; have hq := And.left ‹Ext W3 _ ∧ _›; (with_reducible refine (Like_any a b _ _ W3 _ (by assumption) (HA.out _ (x03.trans (by assumption))) (HB.out _ (x03.trans (by assumption)))).mono ?_); rintro e w' ⟨rfl, hx'⟩)         | (go_at_call 22; have hq := And.left ‹Ext W3 _ ∧ _›; (with_reducible refine (Like_any b a _ _ W3 _ (by assumption) (HB.out _ (x03.trans (by assumption))) (HA.out _ (x03.trans (by assumption)))).mono ?_); rintro e w' ⟨rfl, hx'⟩)         | (go_at_call 22; have hq := And.left ‹Ext W3 _ ∧ _›; (with_reducible refine (Like_any b c _ _ W3 _ (by assumption) (HB.out _ (x03.trans (by assumption))) (HC.out _ (x03.trans (by assumption)))).mono ?_); rintro e w' ⟨rfl, hx'⟩)         | (go_at_call 22; have hq := And.left ‹Ext W3 _ ∧ _›; (with_reducible refine (Like_any a c _ _ W3 _ (by assumption) (HA.out _ (x03.trans (by assumption))) (HC.out _ (x03.trans (by assumption)))).mono ?_); rintro e w' ⟨rfl, hx'⟩)         | (go_at_call 18; have hq := And.left ‹Ext W3 _ ∧ _›; (with_reducible refine (Same_any a b _ _ W3 _ (by assumption) (HA.out _ (x03.trans (by assumption))) (HB.out _ (x03.trans (by assumption)))).mono ?_); rintro e w' ⟨rfl, hx'⟩))
      go_wp2_with fail
      refine hK.out _ _ ?_ (fun hHeld2 => ?_)
      · (try dsimp only); (first | exact MK.out _ hx' | exact MK.out _ hx'.drew | exact MK.out _ (by assumption) | assumption | go_keep)
      clear hK K hHeld
      have hHeld := hHeld2
      clear hHeld2
      try simp only [Act.put, List.setIfInBounds_toArray, List.set_cons_zero, List.set_cons_succ]
      refine take_run (i := 3) (d := (some 28)) (oi := _) (v := ?_) rfl rfl (by kernel_rfl) (by kernel_rfl) (by kernel_rfl) (fun _ _ _ h => h) (by kernel_rfl) ?_ (by assumption) ?_
      rotate_left 1
      · intro w hSw; (try dsimp only at hSw); go_simp; (try with_reducible rfl)
      try simp only [Act.put, List.setIfInBounds_toArray, List.set_cons_zero, List.set_cons_succ]
      refine take_run (i := 4) (d := (some 29)) (oi := _) (v := ?_) rfl rfl (by kernel_rfl) (by kernel_rfl) (by kernel_rfl) (fun _ _ _ h => h) (by kernel_rfl) ?_ (by assumption) ?_
      rotate_left 1
      · intro w hSw; (try dsimp only at hSw); go_simp; (try with_reducible rfl)
      try simp only [Act.put, List.setIfInBounds_toArray, List.set_cons_zero, List.set_cons_succ]
      refine take_run (i := 5) (d := (some 30)) (oi := _) (v := ?_) rfl rfl (by kernel_rfl) (by kernel_rfl) (by kernel_rfl) (fun _ _ _ h => h) (by kernel_rfl) ?_ (by assumption) ?_
      rotate_left 1
      · intro w hSw; (try dsimp only at hSw); go_simp; (try with_reducible rfl)
      try simp only [Act.put, List.setIfInBounds_toArray, List.set_cons_zero, List.set_cons_succ]
      refine take_run (i := 6) (d := (some 31)) (oi := _) (v := ?_) rfl rfl (by kernel_rfl) (by kernel_rfl) (by kernel_rfl) (fun _ _ _ h => h) (by kernel_rfl) ?_ (by assumption) ?_
      rotate_left 1
      · intro w hSw; (try dsimp only at hSw); go_simp; (try with_reducible rfl)
      try simp only [Act.put, List.setIfInBounds_toArray, List.set_cons_zero, List.set_cons_succ]
      refine take_run (i := 8) (d := (some 33)) (oi := _) (v := ?_) rfl rfl (by kernel_rfl) (by kernel_rfl) (by kernel_rfl) (fun _ _ _ h => h) (by kernel_rfl) ?_ (by assumption) ?_
      rotate_left 1
      · intro w hSw; (try dsimp only at hSw); go_simp; (try with_reducible rfl)
      try simp only [Act.put, List.setIfInBounds_toArray, List.set_cons_zero, List.set_cons_succ]
      refine take_run (i := 9) (d := (some 34)) (oi := _) (v := ?_) rfl rfl (by kernel_rfl) (by kernel_rfl) (by kernel_rfl) (fun _ _ _ h => h) (by kernel_rfl) ?_ (by assumption) ?_
      rotate_left 1
      · intro w hSw; (try dsimp only at hSw); go_simp; (try with_reducible rfl)
      try simp only [Act.put, List.setIfInBounds_toArray, List.set_cons_zero, List.set_cons_succ]
      refine wpAnyH_ready (rs := [7]) (by kernel_rfl) (by simp) ?_
      refine AllReadyH.cons (o := _) rfl (fun K hK => ?_) AllReadyH.nil
      go_simp
      (first         | (go_at_call 22; have hq := And.left ‹Ext W3 _ ∧ _›; (with_reducible refine (Like_any a a _ _ W3 _ (by assumption) (HA.out _ (x03.trans (by assumption))) (HA.out _ (x03.trans (by assumption)))).mono ?_); rintro e w' ⟨rfl, hx'⟩)         | (go_at_call 22; have hq := And.left ‹Ext W3 _ ∧ _›; (with_reducible refine (Like_any a b _ _ W3 _ (by assumption) (HA.out _ (x03.trans (by assumption))) (HB.out _ (x03.trans (by assumption)))).mono ?_); rintro e w' ⟨rfl, hx'⟩)         | (go_at_call 22; have hq := And.left ‹Ext W3 _ ∧ _›; (with_reducible refine (Like_any b a _ _ W3 _ (by assumption) (HB.out _ (x03.trans (by assumption))) (HA.out _ (x03.trans (by assumption)))).mono ?_); rintro e w' ⟨rfl, hx'⟩)         | (go_at_call 22; have hq := And.left ‹Ext W3 _ ∧ _›; (with_reducible refine (Like_any b c _ _ W3 _ (by assumption) (HB.out _ (x03.trans (by assumption))) (HC.out _ (x03.trans (by assumption)))).mono ?_); rintro e w' ⟨rfl, hx'⟩)         | (go_at_call 22; have hq := And.left ‹Ext W3 _ ∧ _›; (with_reducible refine (Like_any a c _ _ W3 _ (by assumption) (HA.out _ (x03.trans (by assumption))) (HC.out _ (x03.trans (by assumption)))).mono ?_); rintro e w' ⟨rfl, hx'⟩)         | (go_at_call 18; have hq := And.left ‹Ext W3 _ ∧ _›; (with_reducible refine (Same_any a b _ _ W3 _ (by assumption) (HA.out _ (x03.trans (by assumption))) (HB.out _ (x03.trans (by assumption)))).mono ?_); rintro e w' ⟨rfl, hx'⟩))
      go_wp2_with fail
      refine hK.out _ _ ?_ (fun hHeld2 => ?_)
      · (try dsimp only); (first | exact MK.out _ hx' | exact MK.out _ hx'.drew | exact MK.out _ (by assumption) | assumption | go_keep)
      clear hK K hHeld
      have hHeld := hHeld2
      clear hHeld2
      try simp only [Act.put, List.setIfInBounds_toArray, List.set_cons_zero, List.set_cons_succ]
      refine wpAnyH_ready (rs := [10]) (by kernel_rfl) (by simp) ?_
      refine AllReadyH.cons (o := _) rfl (fun K hK => ?_) AllReadyH.nil
      go_simp
      (first         | (go_at_call 22; have hq := And.left ‹Ext W3 _ ∧ _›; (with_reducible refine (Like_any a a _ _ W3 _ (by assumption) (HA.out _ (x03.trans (by assumption))) (HA.out _ (x03.trans (by assumption)))).mono ?_); rintro e w' ⟨rfl, hx'⟩)         | (go_at_call 22; have hq := And.left ‹Ext W3 _ ∧ _›; (with_reducible refine (Like_any a b _ _ W3 _ (by assumption) (HA.out _ (x03.trans (by assumption))) (HB.out _ (x03.trans (by assumption)))).mono ?_); rintro e w' ⟨rfl, hx'⟩)         | (go_at_call 22; have hq := And.left ‹Ext W3 _ ∧ _›; (with_reducible refine (Like_any b a _ _ W3 _ (by assumption) (HB.out _ (x03.trans (by assumption))) (HA.out _ (x03.trans (by assumption)))).mono ?_); rintro e w' ⟨rfl, hx'⟩)         | (go_at_call 22; have hq := And.left ‹Ext W3 _ ∧ _›; (with_reducible refine (Like_any b c _ _ W3 _ (by assumption) (HB.out _ (x03.trans (by assumption))) (HC.out _ (x03.trans (by assumption)))).mono ?_); rintro e w' ⟨rfl, hx'⟩)         | (go_at_call 22; have hq := And.left ‹Ext W3 _ ∧ _›; (with_reducible refine (Like_any a c _ _ W3 _ (by assumption) (HA.out _ (x03.trans (by assumption))) (HC.out _ (x03.trans (by assumption)))).mono ?_); rintro e w' ⟨rfl, hx'⟩)         | (go_at_call 18; have hq := And.left ‹Ext W3 _ ∧ _›; (with_reducible refine (Same_any a b _ _ W3 _ (by assumption) (HA.out _ (x03.trans (by assumption))) (HB.out _ (x03.trans (by assumption)))).mono ?_); rintro e w' ⟨rfl, hx'⟩))
      go_wp2_with fail
      refine hK.out _ _ ?_ (fun hHeld2 => ?_)
      · (try dsimp only); (first | exact MK.out _ hx' | exact MK.out _ hx'.drew | exact MK.out _ (by assumption) | assumption | go_keep)
      clear hK K hHeld
      have hHeld := hHeld2
      clear hHeld2
      try simp only [Act.put, List.setIfInBounds_toArray, List.set_cons_zero, List.set_cons_succ]
      refine take_run (i := 11) (d := (some 36)) (oi := _) (v := ?_) rfl rfl (by kernel_rfl) (by kernel_rfl) (by kernel_rfl) (fun _ _ _ h => h) (by kernel_rfl) ?_ (by assumption) ?_
      rotate_left 1
      · intro w hSw; (try dsimp only at hSw); go_simp; (try with_reducible rfl)
      try simp only [Act.put, List.setIfInBounds_toArray, List.set_cons_zero, List.set_cons_succ]
      refine take_run (i := 12) (d := (some 37)) (oi := _) (v := ?_) rfl rfl (by kernel_rfl) (by kernel_rfl) (by kernel_rfl) (fun _ _ _ h => h) (by kernel_rfl) ?_ (by assumption) ?_
      rotate_left 1
      · intro w hSw; (try dsimp only at hSw); go_simp; (try with_reducible rfl)
      try simp only [Act.put, List.setIfInBounds_toArray, List.set_cons_zero, List.set_cons_succ]
      refine take_run (i := 13) (d := (some 38)) (oi := _) (v := ?_) rfl rfl (by kernel_rfl) (by kernel_rfl) (by kernel_rfl) (fun _ _ _ h => h) (by kernel_rfl) ?_ (by assumption) ?_
      rotate_left 1
      · intro w hSw; (try dsimp only at hSw); go_simp; (try with_reducible rfl)
      try simp only [Act.put, List.setIfInBounds_toArray, List.set_cons_zero, List.set_cons_succ]
      refine take_run (i := 14) (d := (some 39)) (oi := _) (v := ?_) rfl rfl (by kernel_rfl) (by kernel_rfl) (by kernel_rfl) (fun _ _ _ h => h) (by kernel_rfl) ?_ (by assumption) ?_
      rotate_left 1
      · intro w hSw; (try dsimp only at hSw); go_simp; (try with_reducible rfl)
      try simp only [Act.put, List.setIfInBounds_toArray, List.set_cons_zero, List.set_cons_succ]
      refine take_run (i := 15) (d := (some 40)) (oi := _) (v := ?_) rfl rfl (by kernel_rfl) (by kernel_rfl) (by kernel_rfl) (fun _ _ _ h => h) (by kernel_rfl) ?_ (by assumption) ?_
      rotate_left 1
      · intro w hSw; (try dsimp only at hSw); go_simp; (try with_reducible rfl)
      try simp only [Act.put, List.setIfInBounds_toArray, List.set_cons_zero, List.set_cons_succ]
      refine wpAnyH_ready (rs := [16]) (by kernel_rfl) (by simp) ?_
      refine AllReadyH.cons (o := _) rfl (fun K hK => ?_) AllReadyH.nil
      go_simp
      (first         | (go_at_call 22; have hq := And.left ‹Ext W3 _ ∧ _›; (with_reducible refine (Like_any a a _ _ W3 _ (by assumption) (HA.out _ (x03.trans (by assumption))) (HA.out _ (x03.trans (by assumption)))).mono ?_); rintro e w' ⟨rfl, hx'⟩)         | (go_at_call 22; have hq := And.left ‹Ext W3 _ ∧ _›; (with_reducible refine (Like_any a b _ _ W3 _ (by assumption) (HA.out _ (x03.trans (by assumption))) (HB.out _ (x03.trans (by assumption)))).mono ?_); rintro e w' ⟨rfl, hx'⟩)         | (go_at_call 22; have hq := And.left ‹Ext W3 _ ∧ _›; (with_reducible refine (Like_any b a _ _ W3 _ (by assumption) (HB.out _ (x03.trans (by assumption))) (HA.out _ (x03.trans (by assumption)))).mono ?_); rintro e w' ⟨rfl, hx'⟩)         | (go_at_call 22; have hq := And.left ‹Ext W3 _ ∧ _›; (with_reducible refine (Like_any b c _ _ W3 _ (by assumption) (HB.out _ (x03.trans (by assumption))) (HC.out _ (x03.trans (by assumption)))).mono ?_); rintro e w' ⟨rfl, hx'⟩)         | (go_at_call 22; have hq := And.left ‹Ext W3 _ ∧ _›; (with_reducible refine (Like_any a c _ _ W3 _ (by assumption) (HA.out _ (x03.trans (by assumption))) (HC.out _ (x03.trans (by assumption)))).mono ?_); rintro e w' ⟨rfl, hx'⟩)         | (go_at_call 18; have hq := And.left ‹Ext W3 _ ∧ _›; (with_reducible refine (Same_any a b _ _ W3 _ (by assumption) (HA.out _ (x03.trans (by assumption))) (HB.out _ (x03.trans (by assumption)))).mono ?_); rintro e w' ⟨rfl, hx'⟩))
      go_wp2_with fail
      refine hK.out _ _ ?_ (fun hHeld2 => ?_)
      · (try dsimp only); (first | exact MK.out _ hx' | exact MK.out _ hx'.drew | exact MK.out _ (by assumption) | assumption | go_keep)
      clear hK K hHeld
      have hHeld := hHeld2
      clear hHeld2
      try simp only [Act.put, List.setIfInBounds_toArray, List.set_cons_zero, List.set_cons_succ]
      refine take_run (i := 17) (d := (some 42)) (oi := _) (v := ?_) rfl rfl (by kernel_rfl) (by kernel_rfl) (by kernel_rfl) (fun _ _ _ h => h) (by kernel_rfl) ?_ (by assumption) ?_
      rotate_left 1
      · intro w hSw; (try dsimp only at hSw); go_simp; (try with_reducible rfl)
      try simp only [Act.put, List.setIfInBounds_toArray, List.set_cons_zero, List.set_cons_succ]
      refine take_run (i := 18) (d := (some 43)) (oi := _) (v := ?_) rfl rfl (by kernel_rfl) (by kernel_rfl) (by kernel_rfl) (fun _ _ _ h => h) (by kernel_rfl) ?_ (by assumption) ?_
      rotate_left 1
      · intro w hSw; (try dsimp only at hSw); go_simp; (try with_reducible rfl)
      try simp only [Act.put, List.setIfInBounds_toArray, List.set_cons_zero, List.set_cons_succ]
      refine take_run (i := 19) (d := (some 44)) (oi := _) (v := ?_) rfl rfl (by kernel_rfl) (by kernel_rfl) (by kernel_rfl) (fun _ _ _ h => h) (by kernel_rfl) ?_ (by assumption) ?_
      rotate_left 1
      · intro w hSw; (try dsimp only at hSw); go_simp; (try with_reducible rfl)
      try simp only [Act.put, List.setIfInBounds_toArray, List.set_cons_zero, List.set_cons_succ]
      refine wpAnyH_ready (rs := [20]) (by kernel_rfl) (by simp) ?_
      refine AllReadyH.cons (o := _) rfl (fun K hK => ?_) AllReadyH.nil
      go_simp
      (first         | (go_at_call 22; have hq := And.left ‹Ext W3 _ ∧ _›; (with_reducible refine (Like_any a a _ _ W3 _ (by assumption) (HA.out _ (x03.trans (by assumption))) (HA.out _ (x03.trans (by assumption)))).mono ?_); rintro e w' ⟨rfl, hx'⟩)         | (go_at_call 22; have hq := And.left ‹Ext W3 _ ∧ _›; (with_reducible refine (Like_any a b _ _ W3 _ (by assumption) (HA.out _ (x03.trans (by assumption))) (HB.out _ (x03.trans (by assumption)))).mono ?_); rintro e w' ⟨rfl, hx'⟩)         | (go_at_call 22; have hq := And.left ‹Ext W3 _ ∧ _›; (with_reducible refine (Like_any b a _ _ W3 _ (by assumption) (HB.out _ (x03.trans (by assumption))) (HA.out _ (x03.trans (by assumption)))).mono ?_); rintro e w' ⟨rfl, hx'⟩)         | (go_at_call 22; have hq := And.left ‹Ext W3 _ ∧ _›; (with_reducible refine (Like_any b c _ _ W3 _ (by assumption) (HB.out _ (x03.trans (by assumption))) (HC.out _ (x03.trans (by assumption)))).mono ?_); rintro e w' ⟨rfl, hx'⟩)         | (go_at_call 22; have hq := And.left ‹Ext W3 _ ∧ _›; (with_reducible refine (Like_any a c _ _ W3 _ (by assumption) (HA.out _ (x03.trans (by assumption))) (HC.out _ (x03.trans (by assumption)))).mono ?_); rintro e w' ⟨rfl, hx'⟩)         | (go_at_call 18; have hq := And.left ‹Ext W3 _ ∧ _›; (with_reducible refine (Same_any a b _ _ W3 _ (by assumption) (HA.out _ (x03.trans (by assumption))) (HB.out _ (x03.trans (by assumption)))).mono ?_); rintro e w' ⟨rfl, hx'⟩))
      go_wp2_with fail
      refine hK.out _ _ ?_ (fun hHeld2 => ?_)
      · (try dsimp only); (first | exact MK.out _ hx' | exact MK.out _ hx'.drew | exact MK.out _ (by assumption) | assumption | go_keep)
      clear hK K hHeld
      have hHeld := hHeld2
      clear hHeld2
      try simp only [Act.put, List.setIfInBounds_toArray, List.set_cons_zero, List.set_cons_succ]
      refine take_run (i := 21) (d := (some 46)) (oi := _) (v := ?_) rfl rfl (by kernel_rfl) (by kernel_rfl) (by kernel_rfl) (fun _ _ _ h => h) (by kernel_rfl) ?_ (by assumption) ?_
      rotate_left 1
      · intro w hSw; (try dsimp only at hSw); go_simp; (try with_reducible rfl)
      try simp only [Act.put, List.setIfInBounds_toArray, List.set_cons_zero, List.set_cons_succ]
      refine take_run (i := 22) (d := (some 47)) (oi := _) (v := ?_) rfl rfl (by kernel_rfl) (by kernel_rfl) (by kernel_rfl) (fun _ _ _ h => h) (by kernel_rfl) ?_ (by assumption) ?_
      rotate_left 1
      · intro w hSw; (try dsimp only at hSw); go_simp; (try with_reducible rfl)
      try simp only [Act.put, List.setIfInBounds_toArray, List.set_cons_zero, List.set_cons_succ]
      refine take_run (i := 23) (d := (some 48)) (oi := _) (v := ?_) rfl rfl (by kernel_rfl) (by kernel_rfl) (by kernel_rfl) (fun _ _ _ h => h) (by kernel_rfl) ?_ (by assumption) ?_
      rotate_left 1
      · intro w hSw; (try dsimp only at hSw); go_simp; (try with_reducible rfl)
      try simp only [Act.put, List.setIfInBounds_toArray, List.set_cons_zero, List.set_cons_succ]
      refine take_run (i := 24) (d := (some 49)) (oi := _) (v := ?_) rfl rfl (by kernel_rfl) (by kernel_rfl) (by kernel_rfl) (fun _ _ _ h => h) (by kernel_rfl) ?_ (by assumption) ?_
      rotate_left 1
      · intro w hSw; (try dsimp only at hSw); go_simp; (try with_reducible rfl)
      try simp only [Act.put, List.setIfInBounds_toArray, List.set_cons_zero, List.set_cons_succ]
      refine wpAnyH_ready (rs := [25]) (by kernel_rfl) (by simp) ?_
      refine AllReadyH.cons (o := _) rfl (fun K hK => ?_) AllReadyH.nil
      go_simp
      (first         | (go_at_call 22; have hq := And.left ‹Ext W3 _ ∧ _›; (with_reducible refine (Like_any a a _ _ W3 _ (by assumption) (HA.out _ (x03.trans (by assumption))) (HA.out _ (x03.trans (by assumption)))).mono ?_); rintro e w' ⟨rfl, hx'⟩)         | (go_at_call 22; have hq := And.left ‹Ext W3 _ ∧ _›; (with_reducible refine (Like_any a b _ _ W3 _ (by assumption) (HA.out _ (x03.trans (by assumption))) (HB.out _ (x03.trans (by assumption)))).mono ?_); rintro e w' ⟨rfl, hx'⟩)         | (go_at_call 22; have hq := And.left ‹Ext W3 _ ∧ _›; (with_reducible refine (Like_any b a _ _ W3 _ (by assumption) (HB.out _ (x03.trans (by assumption))) (HA.out _ (x03.trans (by assumption)))).mono ?_); rintro e w' ⟨rfl, hx'⟩)         | (go_at_call 22; have hq := And.left ‹Ext W3 _ ∧ _›; (with_reducible refine (Like_any b c _ _ W3 _ (by assumption) (HB.out _ (x03.trans (by assumption))) (HC.out _ (x03.trans (by assumption)))).mono ?_); rintro e w' ⟨rfl, hx'⟩)         | (go_at_call 22; have hq := And.left ‹Ext W3 _ ∧ _›; (with_reducible refine (Like_any a c _ _ W3 _ (by assumption) (HA.out _ (x03.trans (by assumption))) (HC.out _ (x03.trans (by assumption)))).mono ?_); rintro e w' ⟨rfl, hx'⟩)         | (go_at_call 18; have hq := And.left ‹Ext W3 _ ∧ _›; (with_reducible refine (Same_any a b _ _ W3 _ (by assumption) (HA.out _ (x03.trans (by assumption))) (HB.out _ (x03.trans (by assumption)))).mono ?_); rintro e w' ⟨rfl, hx'⟩))
      go_wp2_with fail
      refine hK.out _ _ ?_ (fun hHeld2 => ?_)
      · (try dsimp only); (first | exact MK.out _ hx' | exact MK.out _ hx'.drew | exact MK.out _ (by assumption) | assumption | go_keep)
      clear hK K hHeld
      have hHeld := hHeld2
      clear hHeld2
      try simp only [Act.put, List.setIfInBounds_toArray, List.set_cons_zero, List.set_cons_succ]
      refine take_run (i := 26) (d := (some 51)) (oi := _) (v := ?_) rfl rfl (by kernel_rfl) (by kernel_rfl) (by kernel_rfl) (fun _ _ _ h => h) (by kernel_rfl) ?_ (by assumption) ?_
      rotate_left 1
      · intro w hSw; (try dsimp only at hSw); go_simp; (try with_reducible rfl)
      try simp only [Act.put, List.setIfInBounds_toArray, List.set_cons_zero, List.set_cons_succ]
      refine take_run (i := 27) (d := (some 52)) (oi := _) (v := ?_) rfl rfl (by kernel_rfl) (by kernel_rfl) (by kernel_rfl) (fun _ _ _ h => h) (by kernel_rfl) ?_ (by assumption) ?_
      rotate_left 1
      · intro w hSw; (try dsimp only at hSw); go_simp; (try with_reducible rfl)
      try simp only [Act.put, List.setIfInBounds_toArray, List.set_cons_zero, List.set_cons_succ]
      refine take_run (i := 28) (d := (some 53)) (oi := _) (v := ?_) rfl rfl (by kernel_rfl) (by kernel_rfl) (by kernel_rfl) (fun _ _ _ h => h) (by kernel_rfl) ?_ (by assumption) ?_
      rotate_left 1
      · intro w hSw; (try dsimp only at hSw); go_simp; (try with_reducible rfl)
      try simp only [Act.put, List.setIfInBounds_toArray, List.set_cons_zero, List.set_cons_succ]
      refine take_run (i := 29) (d := (some 54)) (oi := _) (v := ?_) rfl rfl (by kernel_rfl) (by kernel_rfl) (by kernel_rfl) (fun _ _ _ h => h) (by kernel_rfl) ?_ (by assumption) ?_
      rotate_left 1
      · intro w hSw; (try dsimp only at hSw); go_simp; (try with_reducible rfl)
      try simp only [Act.put, List.setIfInBounds_toArray, List.set_cons_zero, List.set_cons_succ]
      refine take_run (i := 30) (d := (some 55)) (oi := _) (v := ?_) rfl rfl (by kernel_rfl) (by kernel_rfl) (by kernel_rfl) (fun _ _ _ h => h) (by kernel_rfl) ?_ (by assumption) ?_
      rotate_left 1
      · intro w hSw; (try dsimp only at hSw); go_simp; (try with_reducible rfl)
      try simp only [Act.put, List.setIfInBounds_toArray, List.set_cons_zero, List.set_cons_succ]
      refine take_run (i := 31) (d := (some 56)) (oi := _) (v := ?_) rfl rfl (by kernel_rfl) (by kernel_rfl) (by kernel_rfl) (fun _ _ _ h => h) (by kernel_rfl) ?_ (by assumption) ?_
      rotate_left 1
      · intro w hSw; (try dsimp only at hSw); go_simp; (try with_reducible rfl)
      try simp only [Act.put, List.setIfInBounds_toArray, List.set_cons_zero, List.set_cons_succ]
      refine wpAnyH_ready (rs := [32]) (by kernel_rfl) (by simp) ?_
      refine AllReadyH.cons (o := _) rfl (fun K hK => ?_) AllReadyH.nil
      go_simp
      (first         | (go_at_call 22; have hq := And.left ‹Ext W3 _ ∧ _›; (with_reducible refine (Like_any a a _ _ W3 _ (by assumption) (HA.out _ (x03.trans (by assumption))) (HA.out _ (x03.trans (by assumption)))).mono ?_); rintro e w' ⟨rfl, hx'⟩)         | (go_at_call 22; have hq := And.left ‹Ext W3 _ ∧ _›; (with_reducible refine (Like_any a b _ _ W3 _ (by assumption) (HA.out _ (x03.trans (by assumption))) (HB.out _ (x03.trans (by assumption)))).mono ?_); rintro e w' ⟨rfl, hx'⟩)         | (go_at_call 22; have hq := And.left ‹Ext W3 _ ∧ _›; (with_reducible refine (Like_any b a _ _ W3 _ (by assumption) (HB.out _ (x03.trans (by assumption))) (HA.out _ (x03.trans (by assumption)))).mono ?_); rintro e w' ⟨rfl, hx'⟩)         | (go_at_call 22; have hq := And.left ‹Ext W3 _ ∧ _›; (with_reducible refine (Like_any b c _ _ W3 _ (by assumption) (HB.out _ (x03.trans (by assumption))) (HC.out _ (x03.trans (by assumption)))).mono ?_); rintro e w' ⟨rfl, hx'⟩)         | (go_at_call 22; have hq := And.left ‹Ext W3 _ ∧ _›; (with_reducible refine (Like_any a c _ _ W3 _ (by assumption) (HA.out _ (x03.trans (by assumption))) (HC.out _ (x03.trans (by assumption)))).mono ?_); rintro e w' ⟨rfl, hx'⟩)         | (go_at_call 18; have hq := And.left ‹Ext W3 _ ∧ _›; (with_reducible refine (Same_any a b _ _ W3 _ (by assumption) (HA.out _ (x03.trans (by assumption))) (HB.out _ (x03.trans (by assumption)))).mono ?_); rintro e w' ⟨rfl, hx'⟩))
      go_wp2_with fail
      refine hK.out _ _ ?_ (fun hHeld2 => ?_)
      · (try dsimp only); (first | exact MK.out _ hx' | exact MK.out _ hx'.drew | exact MK.out _ (by assumption) | assumption | go_keep)
      clear hK K hHeld
      have hHeld := hHeld2
      clear hHeld2
      try simp only [Act.put, List.setIfInBounds_toArray, List.set_cons_zero, List.set_cons_succ]
      refine take_run (i := 33) (d := (some 58)) (oi := _) (v := ?_) rfl rfl (by kernel_rfl) (by kernel_rfl) (by kernel_rfl) (fun _ _ _ h => h) (by kernel_rfl) ?_ (by assumption) ?_
      rotate_left 1
      · intro w hSw; (try dsimp only at hSw); go_simp; (try with_reducible rfl)
      try simp only [Act.put, List.setIfInBounds_toArray, List.set_cons_zero, List.set_cons_succ]
      refine take_skip (i := 34) (d := (some 59)) (oi := _) rfl rfl (by kernel_rfl) (by kernel_rfl) (by kernel_rfl) (fun _ _ _ h => h) (by kernel_rfl) (by assumption) ?_
      try simp only [Act.put, List.setIfInBounds_toArray, List.set_cons_zero, List.set_cons_succ]
      refine take_skip (i := 35) (d := (some 60)) (oi := _) rfl rfl (by kernel_rfl) (by kernel_rfl) (by kernel_rfl) (fun _ _ _ h => h) (by kernel_rfl) (by assumption) ?_
      try simp only [Act.put, List.setIfInBounds_toArray, List.set_cons_zero, List.set_cons_succ]
      refine take_skip (i := 36) (d := (some 61)) (oi := _) rfl rfl (by kernel_rfl) (by kernel_rfl) (by kernel_rfl) (fun _ _ _ h => h) (by kernel_rfl) (by assumption) ?_
      try simp only [Act.put, List.setIfInBounds_toArray, List.set_cons_zero, List.set_cons_succ]
      refine take_skip (i := 37) (d := (some 62)) (oi := _) rfl rfl (by kernel_rfl) (by kernel_rfl) (by kernel_rfl) (fun _ _ _ h => h) (by kernel_rfl) (by assumption) ?_
      try simp only [Act.put, List.setIfInBounds_toArray, List.set_cons_zero, List.set_cons_succ]
      refine take_run (i := 38) (d := (some 63)) (oi := _) (v := ?_) rfl rfl (by kernel_rfl) (by kernel_rfl) (by kernel_rfl) (fun _ _ _ h => h) (by kernel_rfl) ?_ (by assumption) ?_
      rotate_left 1
      · intro w hSw; (try dsimp only at hSw); go_simp; (try with_reducible rfl)
      try simp only [Act.put, List.setIfInBounds_toArray, List.set_cons_zero, List.set_cons_succ]
      refine take_run (i := 39) (d := (some 64)) (oi := _) (v := ?_) rfl rfl (by kernel_rfl) (by kernel_rfl) (by kernel_rfl) (fun _ _ _ h => h) (by kernel_rfl) ?_ (by assumption) ?_
      rotate_left 1
      · intro w hSw; (try dsimp only at hSw); go_simp; (try with_reducible rfl)
      try simp only [Act.put, List.setIfInBounds_toArray, List.set_cons_zero, List.set_cons_succ]
      refine wpAnyH_done (by kernel_rfl) ?_ _
      go_wp2_with fail
      go_meet
      exact ⟨rfl, by assumption⟩
    · go_region_held3 (fun w' => Ext W3 w' ∧ w'.cell? ⟨W.heap.size, 0, none⟩ = some (.int .i8 a.kind) ∧ w'.cell? ⟨W.heap.size, 1, none⟩ = some (.int .u64 a.r0) ∧ w'.cell? ⟨W.heap.size, 2, none⟩ = some ac ∧ w'.cell? ⟨W.heap.size, 3, none⟩ = some at' ∧ w'.cell? ⟨W.heap.size, 4, none⟩ = some (.int .i64 a.left) ∧ w'.cell? ⟨W.heap.size + 1, 0, none⟩ = some (.int .i8 b.kind) ∧ w'.cell? ⟨W.heap.size + 1, 1, none⟩ = some (.int .u64 b.r0) ∧ w'.cell? ⟨W.heap.size + 1, 2, none⟩ = some bc ∧ w'.cell? ⟨W.heap.size + 1, 3, none⟩ = some bt ∧ w'.cell? ⟨W.heap.size + 1, 4, none⟩ = some (.int .i64 b.left) ∧ w'.cell? ⟨W.heap.size + 1 + 1, 0, none⟩ = some (.int .i8 c.kind) ∧ w'.cell? ⟨W.heap.size + 1 + 1, 1, none⟩ = some (.int .u64 c.r0) ∧ w'.cell? ⟨W.heap.size + 1 + 1, 2, none⟩ = some cc ∧ w'.cell? ⟨W.heap.size + 1 + 1, 3, none⟩ = some ct ∧ w'.cell? ⟨W.heap.size + 1 + 1, 4, none⟩ = some (.int .i64 c.left))
        (first | exact MK.out _ hx' | exact MK.out _ hx'.drew | exact MK.out _ (by assumption) | assumption | go_keep)
        (first
        | (go_at_call 22; have hq := And.left ‹Ext W3 _ ∧ _›; (with_reducible refine (Like_any a a _ _ W3 _ (by assumption) (HA.out _ (x03.trans (by assumption))) (HA.out _ (x03.trans (by assumption)))).mono ?_); rintro e w' ⟨rfl, hx'⟩)
        | (go_at_call 22; have hq := And.left ‹Ext W3 _ ∧ _›; (with_reducible refine (Like_any a b _ _ W3 _ (by assumption) (HA.out _ (x03.trans (by assumption))) (HB.out _ (x03.trans (by assumption)))).mono ?_); rintro e w' ⟨rfl, hx'⟩)
        | (go_at_call 22; have hq := And.left ‹Ext W3 _ ∧ _›; (with_reducible refine (Like_any b a _ _ W3 _ (by assumption) (HB.out _ (x03.trans (by assumption))) (HA.out _ (x03.trans (by assumption)))).mono ?_); rintro e w' ⟨rfl, hx'⟩)
        | (go_at_call 22; have hq := And.left ‹Ext W3 _ ∧ _›; (with_reducible refine (Like_any b c _ _ W3 _ (by assumption) (HB.out _ (x03.trans (by assumption))) (HC.out _ (x03.trans (by assumption)))).mono ?_); rintro e w' ⟨rfl, hx'⟩)
        | (go_at_call 22; have hq := And.left ‹Ext W3 _ ∧ _›; (with_reducible refine (Like_any a c _ _ W3 _ (by assumption) (HA.out _ (x03.trans (by assumption))) (HC.out _ (x03.trans (by assumption)))).mono ?_); rintro e w' ⟨rfl, hx'⟩)
        | (go_at_call 18; have hq := And.left ‹Ext W3 _ ∧ _›; (with_reducible refine (Same_any a b _ _ W3 _ (by assumption) (HA.out _ (x03.trans (by assumption))) (HB.out _ (x03.trans (by assumption)))).mono ?_); rintro e w' ⟨rfl, hx'⟩))
      go_wp2_with fail
      go_meet
      exact ⟨rfl, by assumption⟩
  case rest =>
    obtain ⟨rfl, hxc⟩ := hcut
    go_upto_region 5 with fail
    go_cut [9, 10] (fun s9 s10 wx => ∃ p q lo hi cv tv kc kt avs ns, s9 = .pointer (some ⟨p, 0, none⟩) ∧ s10 = .pointer (some ⟨q, 0, none⟩) ∧ Hid (LK W3 a p q lo hi cv tv kc kt avs ns wx))
    case first =>
      obtain ⟨_, a0, a1, a2, a3, a4, _⟩ := MK.out _ hxc
      have hxd := hxc.drew
      have tok : True := trivial
      have SK : Hid (∀ w', Ext W3 w' → Ext W3 w' ∧ w'.cell? ⟨W.heap.size, 0, none⟩ = some (.int .i8 a.kind) ∧ w'.cell? ⟨W.heap.size, 1, none⟩ = some (.int .u64 a.r0) ∧ w'.cell? ⟨W.heap.size, 2, none⟩ = some ac ∧ w'.cell? ⟨W.heap.size, 3, none⟩ = some at' ∧ w'.cell? ⟨W.heap.size, 4, none⟩ = some (.int .i64 a.left)) :=
        hide (fun w' h => ⟨h, (MK.out _ h).2.1, (MK.out _ h).2.2.1, (MK.out _ h).2.2.2.1, (MK.out _ h).2.2.2.2.1, (MK.out _ h).2.2.2.2.2.1⟩)
      go_region_held3 (fun w' => Ext W3 w' ∧ w'.cell? ⟨W.heap.size, 0, none⟩ = some (.int .i8 a.kind) ∧ w'.cell? ⟨W.heap.size, 1, none⟩ = some (.int .u64 a.r0) ∧ w'.cell? ⟨W.heap.size, 2, none⟩ = some ac ∧ w'.cell? ⟨W.heap.size, 3, none⟩ = some at' ∧ w'.cell? ⟨W.heap.size, 4, none⟩ = some (.int .i64 a.left))
        ((refine SK.out _ ?_; repeat (with_reducible first | assumption | exact hxa | exact hxb | exact hxc | apply Ext.alloc | apply Ext.drew | (refine Ext.setCell ?_ ?_ _; rotate_left 1; (have := hxc.size; (try have := hxa.size); (try have := hxb.size); simp; omega)))))
        (first
        | (go_at_call 23; clear tok; have hq := And.left ‹Ext W3 _ ∧ _›; (with_reducible refine (Copy_any a _ _ _ (Ext.refl _) (HA.out _ (x03.trans hq)) G1.out).mono ?_); rintro e w1 ⟨vc, rfl, hcv, hx1⟩; obtain ⟨oa, ca, ob, cb, rfl⟩ := hcv.form; have C1 := hide hcv; clear hcv; have hxa : Ext W3 w1 := hq.trans hx1; clear hq; have X1 := hide hx1; clear hx1; (first | (obtain ⟨n1, n2⟩ := new_two_d X1.out; have e0 : _ = some _ := n1.cell 0; have e1 : _ = some _ := n1.cell 1; have e2 : _ = some _ := n1.cell 2; have e3 : _ = some _ := n1.cell 3; have e4 : _ = some _ := n1.cell 4; have f0 := n1.free; have z0 := n1.lt; have g0 : _ = some _ := n2.cell 0; have g1 : _ = some _ := n2.cell 1; have g2 : _ = some _ := n2.cell 2; have g3 : _ = some _ := n2.cell 3; have g4 : _ = some _ := n2.cell 4; have f1 := n2.free; have z1 := n2.lt; have N1 := hide n1; have N2 := hide n2; clear n1 n2) | (obtain ⟨n1, n2⟩ := new_two X1.out; have e0 : _ = some _ := n1.cell 0; have e1 : _ = some _ := n1.cell 1; have e2 : _ = some _ := n1.cell 2; have e3 : _ = some _ := n1.cell 3; have e4 : _ = some _ := n1.cell 4; have f0 := n1.free; have z0 := n1.lt; have g0 : _ = some _ := n2.cell 0; have g1 : _ = some _ := n2.cell 1; have g2 : _ = some _ := n2.cell 2; have g3 : _ = some _ := n2.cell 3; have g4 : _ = some _ := n2.cell 4; have f1 := n2.free; have z1 := n2.lt; have N1 := hide n1; have N2 := hide n2; clear n1 n2) | (have n1 := new_one_d X1.out; have e0 : _ = some _ := n1.cell 0; have e1 : _ = some _ := n1.cell 1; have e2 : _ = some _ := n1.cell 2; have e3 : _ = some _ := n1.cell 3; have e4 : _ = some _ := n1.cell 4; have f0 := n1.free; have z0 := n1.lt; have N1 := hide n1; clear n1) | (have n1 := new_one X1.out; have e0 : _ = some _ := n1.cell 0; have e1 : _ = some _ := n1.cell 1; have e2 : _ = some _ := n1.cell 2; have e3 : _ = some _ := n1.cell 3; have e4 : _ = some _ := n1.cell 4; have f0 := n1.free; have z0 := n1.lt; have N1 := hide n1; clear n1) | skip))
        | (go_at_call 23; have hq := And.left ‹Ext W3 _ ∧ _›; (with_reducible refine (Copy_any a _ _ _ (Ext.refl _) (HA.out _ (x03.trans hq)) G1.out).mono ?_); rintro e w2 ⟨vc, rfl, hcv, hx2⟩; obtain ⟨oc, cc', od, cd, rfl⟩ := hcv.form; have C2 := hide hcv; clear hcv; have hxb : Ext W3 w2 := hq.trans hx2; clear hq; have X2 := hide hx2; clear hx2; (try (have m1 := N1.out.ext (by with_reducible first | exact X2.out | exact ((Ext.refl _).alloc _).trans X2.out | exact (((Ext.refl _).alloc _).alloc _).trans X2.out); have i0 : _ = some _ := m1.cell 0; have i1 : _ = some _ := m1.cell 1; have i2 : _ = some _ := m1.cell 2; have i3 : _ = some _ := m1.cell 3; have i4 : _ = some _ := m1.cell 4; have f2 := m1.free; have z2 := m1.lt; have PN1 := hide m1; clear m1)); (try (have m1 := N2.out.ext (by with_reducible first | exact X2.out | exact ((Ext.refl _).alloc _).trans X2.out | exact (((Ext.refl _).alloc _).alloc _).trans X2.out); have j0 : _ = some _ := m1.cell 0; have j1 : _ = some _ := m1.cell 1; have j2 : _ = some _ := m1.cell 2; have j3 : _ = some _ := m1.cell 3; have j4 : _ = some _ := m1.cell 4; have f3 := m1.free; have z3 := m1.lt; have PN2 := hide m1; clear m1)); (first | (obtain ⟨n1, n2⟩ := new_two_d X2.out; have k0 : _ = some _ := n1.cell 0; have k1 : _ = some _ := n1.cell 1; have k2 : _ = some _ := n1.cell 2; have k3 : _ = some _ := n1.cell 3; have k4 : _ = some _ := n1.cell 4; have f0y := n1.free; have z0y := n1.lt; have l0 : _ = some _ := n2.cell 0; have l1 : _ = some _ := n2.cell 1; have l2 : _ = some _ := n2.cell 2; have l3 : _ = some _ := n2.cell 3; have l4 : _ = some _ := n2.cell 4; have f1y := n2.free; have z1y := n2.lt; have Q1 := hide n1; have Q2 := hide n2; clear n1 n2) | (obtain ⟨n1, n2⟩ := new_two X2.out; have k0 : _ = some _ := n1.cell 0; have k1 : _ = some _ := n1.cell 1; have k2 : _ = some _ := n1.cell 2; have k3 : _ = some _ := n1.cell 3; have k4 : _ = some _ := n1.cell 4; have f0y := n1.free; have z0y := n1.lt; have l0 : _ = some _ := n2.cell 0; have l1 : _ = some _ := n2.cell 1; have l2 : _ = some _ := n2.cell 2; have l3 : _ = some _ := n2.cell 3; have l4 : _ = some _ := n2.cell 4; have f1y := n2.free; have z1y := n2.lt; have Q1 := hide n1; have Q2 := hide n2; clear n1 n2) | (have n1 := new_one_d X2.out; have k0 : _ = some _ := n1.cell 0; have k1 : _ = some _ := n1.cell 1; have k2 : _ = some _ := n1.cell 2; have k3 : _ = some _ := n1.cell 3; have k4 : _ = some _ := n1.cell 4; have f0y := n1.free; have z0y := n1.lt; have Q1 := hide n1; clear n1) | (have n1 := new_one X2.out; have k0 : _ = some _ := n1.cell 0; have k1 : _ = some _ := n1.cell 1; have k2 : _ = some _ := n1.cell 2; have k3 : _ = some _ := n1.cell 3; have k4 : _ = some _ := n1.cell 4; have f0y := n1.free; have z0y := n1.lt; have Q1 := hide n1; clear n1) | skip)))
      all_goals
        go_wp2_with fail
        go_meet
        obtain ⟨lo, avs, ns, hlo, M1⟩ := Mut.of' C1.out
        obtain ⟨s2, hs2, M2⟩ := C2.out.out
        have M3 := M1.ext (by with_reducible first | exact X2.out | exact ((Ext.refl _).alloc _).trans X2.out | exact (((Ext.refl _).alloc _).alloc _).trans X2.out)
        have q1 := X1.out.size
        have q2 := X2.out.size
        have q3 := hxc.size
        simp at q1 q2 hlo hs2
        refine ⟨_, _, lo, w1.heap.size, .slice oa a.ctx.length ca, .slice ob a.tr.length cb, .slice oc a.ctx.length cc', .slice od a.tr.length cd, avs, ns, rfl, rfl, hide ?_⟩
        with_reducible first
          | refine leafA hxb M3 M2 ?_ ?_ ?_
          | refine leafA' hxb M3 M2 ?_ ?_ ?_
          | refine leafB hxb M3 M2 ?_ ?_ ?_ (by with_reducible first | exact PN1.out | exact PN2.out | exact Q1.out | exact Q2.out) ?_ ?_ ?_
          | refine leafB' hxb M3 M2 ?_ ?_ ?_ (by with_reducible first | exact PN1.out | exact PN2.out | exact Q1.out | exact Q2.out) ?_ ?_ ?_
          | refine leafC hxb M3 M2 ?_ ?_ (by with_reducible first | exact PN1.out | exact PN2.out | exact Q1.out | exact Q2.out) (by with_reducible first | exact PN1.out | exact PN2.out | exact Q1.out | exact Q2.out) ?_ ?_ ?_ ?_ ?_ ?_ ?_
        all_goals omega
    case rest =>
      obtain ⟨p, q, lo, hi, cv, tv, kc, kt, avs, ns, rfl, rfl, L⟩ := hcut
      obtain ⟨oa, ca, rfl⟩ : ∃ oa ca, cv = .slice oa a.ctx.length ca := L.out.2.2.2.2.1.ctxForm
      obtain ⟨ob, cb, rfl⟩ : ∃ oa ca, tv = .slice oa a.tr.length ca := L.out.2.2.2.2.1.trForm
      clear hxc hx
      have p2 := L.out.2.1.2.2.1
      have p3 := L.out.2.1.2.2.2.1
      obtain ⟨nc, hnc⟩ : ∃ nc, nc = a.ctx.length := ⟨_, rfl⟩
      obtain ⟨nt, hnt⟩ : ∃ nt, nt = a.tr.length := ⟨_, rfl⟩
      have mc : a.ctx.length ≤ 1000 := (great_parts g1).2.1
      have mt : a.tr.length ≤ 100 := (great_parts g1).1
      rw [← hnc] at p2 L mc
      rw [← hnt] at p3 L mt
      have HNC := hide hnc
      have HNT := hide hnt
      clear hnc hnt
      go_wp2_with fail
      go_loopw [72] (fun i wr => ∃ k : Nat, i = .int .i64 k ∧ k ≤ nc ∧ Hid (LK W3 a p q lo hi (.slice oa nc ca) (.slice ob nt cb) kc kt avs ns wr)) (fun i _ => nc - (intOf i).toNat)
      case atStart => exact ⟨0, rfl, by omega, L⟩
      case round =>
        obtain ⟨k, rfl, hk, H⟩ := hrel
        clear p2 p3
        by_cases hlt : k < nc
        · obtain ⟨g, ca', e1, m1, m2, m3, m4, m5, m6, m7⟩ := H.out.2.2.2.2.1.ctx (by rw [← HNC.out]; omega)
          obtain ⟨z, hz⟩ := m5 k (by rw [← HNC.out]; exact hlt)
          have hf := m6 k
          obtain ⟨rfl, rfl⟩ : oa = some ⟨g, 0, none⟩ ∧ ca = ca' := by simp at e1; exact ⟨e1.1, e1.2.2⟩
          have i0 : (0 : Int) ≤ (k : Int) := by omega
          have i1 : (k : Int) < (nc : Int) := by omega
          have p2 := H.out.2.1.2.2.1
          clear e1 m5 m6
          have M1 := hide m1
          have M2 := hide m2
          have M7 := hide m7
          clear m1 m2 m3 m4 m7
          go_wp2_with fail
          go_region_law (fail)
          all_goals
            have st := (LK.set H.out g k (.int .u8 (bits .xor .u8 z by')) M1.out M2.out (M7.out k _)).drew
            have ST := hide st
            clear st
            go_wp2_with fail
            go_roundw
            case rel => exact ⟨k + 1, by go_num, by omega, ST⟩
            case measure => simp [intOf]; omega
        · have p3 := H.out.2.1.2.2.2.1
          clear L
          go_wp2_with fail
          obtain ⟨wo, hwo⟩ : ∃ wo : World, wo = wr := ⟨_, rfl⟩
          rw [← hwo]
          rw [← hwo] at H
          clear hwo p3
          go_loopw [90] (fun i wr => ∃ k : Nat, i = .int .i64 k ∧ k ≤ nt ∧ Hid (LK W3 a p q lo hi (.slice oa nc ca) (.slice ob nt cb) kc kt avs ns wr)) (fun i _ => nt - (intOf i).toNat)
          case atStart => exact ⟨0, rfl, by omega, H⟩
          case round =>
            clear H
            obtain ⟨m, rfl, hm, H⟩ := hrel
            by_cases hlm : m < nt
            · obtain ⟨g, cb', e1, m1, m2, m3, m4, m5, m6, m7⟩ := H.out.2.2.2.2.1.num (by rw [← HNT.out]; omega)
              obtain ⟨rfl, rfl⟩ : ob = some ⟨g, 0, none⟩ ∧ cb = cb' := by simp at e1; exact ⟨e1.1, e1.2.2⟩
              obtain ⟨oh, ch, eh⟩ : ∃ oh ch, avs m = .slice oh (ns m) ch := H.out.2.2.2.2.1.argForm (by rw [← HNT.out]; exact hlm)
              have ln := H.out.2.2.2.2.1.argLen (by rw [← HNT.out]; exact hlm)
              unfold maxLen at ln
              have hz := (m5 m (by rw [← HNT.out]; exact hlm)).2
              rw [eh] at hz
              obtain ⟨n, hn⟩ : ∃ n, n = ns m := ⟨_, rfl⟩
              rw [← hn] at hz ln
              have HN := hide hn
              have EH := hide eh
              have i0 : (0 : Int) ≤ (m : Int) := by omega
              have i1 : (m : Int) < (nt : Int) := by omega
              have p3 := H.out.2.1.2.2.2.1
              clear e1 m1 m2 m3 m4 m5 m6 m7 hn eh
              go_wp2_with fail
              obtain ⟨wm, hwm⟩ : ∃ wm : World, wm = wr := ⟨_, rfl⟩
              rw [← hwm]
              rw [← hwm] at H
              clear hwm p3 hz
              go_loopw [100] (fun i wr => ∃ k : Nat, i = .int .i64 k ∧ k ≤ n ∧ Hid (LK W3 a p q lo hi (.slice oa nc ca) (.slice (some ⟨g, 0, none⟩) nt cb) kc kt avs ns wr)) (fun i _ => n - (intOf i).toNat)
              case atStart => exact ⟨0, rfl, by omega, H⟩
              case round =>
                clear H
                obtain ⟨j, rfl, hj, H⟩ := hrel
                obtain ⟨g', cb', e1, m1, m2, m3, m4, m5, m6, m7⟩ := H.out.2.2.2.2.1.num (by rw [← HNT.out]; omega)
                obtain ⟨rfl, rfl⟩ : g = g' ∧ cb = cb' := by simp at e1; exact ⟨e1.1, e1.2.2⟩
                have hz := (m5 m (by rw [← HNT.out]; exact hlm)).2
                rw [EH.out, ← HN.out] at hz
                have p3 := H.out.2.1.2.2.2.1
                by_cases hlj : j < n
                · clear m1 m2 m3 m4 m5 m6 m7 e1
                  obtain ⟨h, ch', e1, m1, m2, m3, m4, m5, m6, m7⟩ := H.out.2.2.2.2.1.arg (i := m) (by rw [← HNT.out]; exact hlm) (by rw [← HN.out]; omega)
                  obtain ⟨rfl, rfl⟩ : oh = some ⟨h, 0, none⟩ ∧ ch = ch' := by rw [EH.out] at e1; simp at e1; exact e1
                  obtain ⟨z, hy⟩ := m5 j (by rw [← HN.out]; exact hlj)
                  have hf := m6 j
                  have j0 : (0 : Int) ≤ (j : Int) := by omega
                  have j1 : (j : Int) < (n : Int) := by omega
                  have M1 := hide m1
                  have M2 := hide m2
                  have M7 := hide m7
                  clear m1 m2 m3 m4 m5 m6 m7 e1
                  go_wp2_with fail
                  go_region_law (fail)
                  all_goals
                    go_wp2_with fail
                    go_roundw
                    case rel => exact ⟨j + 1, by go_num, by omega, hide ((LK.set H.out h j _ M1.out M2.out (M7.out j _)).drew)⟩
                    case measure => simp [intOf]; omega
                · obtain ⟨z, hy⟩ := (m5 m (by rw [← HNT.out]; exact hlm)).1
                  have hf := m6 (m * 3)
                  have M1 := hide m1
                  have M2 := hide m2
                  have M7 := hide m7
                  clear m1 m2 m3 m4 m5 m6 m7 e1 hz
                  go_wp2_with fail
                  go_region_law (fail)
                  all_goals
                    go_wp2_with fail
                    go_roundw
                    case rel => exact ⟨m + 1, by go_num, by omega, hide ((LK.set H.out g (m * 3) _ M1.out M2.out (M7.out m _)).drew)⟩
                    case measure => simp [intOf]; omega
            · have hss : zsame a a = true := by rw [zsame_eq]; simp
              obtain ⟨h0, a0, a1, a2, a3, a4, _⟩ := MK.out _ H.out.1
              obtain ⟨k0, k1, k2, k3, k4⟩ := H.out.2.2.1
              have KO := hide (CopyV.oc H.out.2.2.2.1 KA.out)
              go_wp2_with (first
                | (go_at_call 18; (with_reducible refine (Same_any a a _ _ W3 _ (by assumption) (HA.out _ (x03.trans (by assumption))) KO.out).mono ?_); rintro e w' ⟨rfl, hx'⟩)
                | (go_at_call 16; refine (twakes_any W3 _ (by assumption)).mono ?_; rintro e w' ⟨rfl, hx'⟩)
                | fail)
              go_ret
              exact ⟨rfl, x03.trans (by assumption)⟩

theorem law_TraceLike {H : Type} {enc : TypeId × Value → H} {W : World} {r : Reach} {b0 : Nat} (v0 : Value) (k0 : Value.okWide Try.prog W r b0 31 v0) (d0 : DataW H) (p0 : List MemPlace) (h0 : DataW.Trod enc Try.prog W 0 (fun _ => true) true 31 v0 d0 p0) (_ : ∀ x ∈ p0, x.block < W.heap.size)
    (v1 : Value) (k1 : Value.okWide Try.prog W r b0 31 v1) (d1 : DataW H) (p1 : List MemPlace) (h1 : DataW.Trod enc Try.prog W 0 (fun _ => true) true 31 v1 d1 p1) (_ : ∀ x ∈ p1, x.block < W.heap.size)
    (v2 : Value) (k2 : Value.okWide Try.prog W r b0 31 v2) (d2 : DataW H) (p2 : List MemPlace) (h2 : DataW.Trod enc Try.prog W 0 (fun _ => true) true 31 v2 d2 p2) (_ : ∀ x ∈ p2, x.block < W.heap.size)
    (a3 : Int) (_ : (Lit.int .u8 a3).wf = true) :
    Calls Try.prog 6 #[v0, v1, v2, .int .u8 a3] W fun e W' => e = .returned (.bool true) ∧ Below W.heap.size W W' := by
  obtain ⟨l0, g0⟩ := OcV.of_arg k0 h0
  obtain ⟨l1, g1⟩ := OcV.of_arg k1 h1
  obtain ⟨l2, g2⟩ := OcV.of_arg k2 h2
  exact like_walk l0 l1 l2 a3 v0 v1 v2 W g0 g1 g2
end Go.Proofs.Yteheidiiigjglaa
