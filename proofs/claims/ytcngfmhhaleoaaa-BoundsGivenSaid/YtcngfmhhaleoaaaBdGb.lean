/- The walk of Given of package bounds: conditions 2, 3. -/
import Derived.Test.YtcngfmhhaleoaaaBdX
import Derived.Test.YtcngfmhhaleoaaaBdM
import Derived.Test.YtcngfmhhaleoaaaBdGs
import Derived.Deep.RegionHeld3
import Derived.Deep.RegionWith
import Derived.Deep.DeepCutAuto
import Derived.Deep.CutBlock
set_option linter.unusedVariables false
set_option linter.unusedSimpArgs false
namespace Go.Proofs.Ytcngfmhhaleoaaa
open Go.RowKit Go.ChangeShapes Go.WideShapes

set_option maxRecDepth 100000 in
set_option maxHeartbeats 32000000 in
theorem b_given_b (cc : Int) (a b : Rg) (hcc : cc = 2 ∨ cc = 3) (ha : a.wf) (hb : b.wf) (h1 : bmay a = true) (h2 : bmay b = true) (W w : World) (hx : Ext W w) :
    Calls Try.prog 19 #[.int .i8 cc, .agg #[.int .u64 a.ul, .int .u64 a.uh, .int .i64 a.sl, .int .i64 a.sh], .agg #[.int .u64 b.ul, .int .u64 b.uh, .int .i64 b.sl, .int .i64 b.sh]] w fun e w' => e = .returned (.tuple #[.agg #[.int .u64 (bgiv cc a b).ul, .int .u64 (bgiv cc a b).uh, .int .i64 (bgiv cc a b).sl, .int .i64 (bgiv cc a b).sh], .bool (bgok cc a b)]) ∧ Ext W w' := by
  have c0 : 0 ≤ cc := by omega
  have c10 : cc ≤ 10 := by omega
  have cn : ¬ cc < 0 := by omega
  have cm : ¬ 10 < cc := by omega
  have CC := hide hcc
  clear hcc
  obtain ⟨W3, hW3⟩ : ∃ W3, W3 = (((w.alloc (.cells #[.int .u64 a.ul, .int .u64 a.uh, .int .i64 a.sl, .int .i64 a.sh] 24)).alloc (.cells #[.int .u64 b.ul, .int .u64 b.uh, .int .i64 b.sl, .int .i64 b.sh] 24)).alloc (.cells #[.int .u64 0, .int .u64 0, .int .i64 0, .int .i64 0] 24)) := ⟨_, rfl⟩
  have x3 : Ext w W3 := by rw [hW3]; exact ((((Ext.refl w).alloc _).alloc _).alloc _)
  have MK := hide (fun w' (h : Ext W3 w') => bk3 (hW3 ▸ h))
  have hx' : Ext W3 W3 := Ext.refl _
  have HG : Hid (bgood cc a b = true) := hide (by unfold bgood; rw [h1, h2, decide_eq_true c0, decide_eq_true c10]; rfl)
  have MA := hide h1
  have MB := hide h2
  have HA := hide ha
  have HB := hide hb
  clear h1 h2
  go_enter Try.func19, Try.ntmps19
  go_wp2_with fail
  rw [← hW3]
  clear hW3
  (try clear c0_0 c0_1 c0_2 c0_3 c1_0 c1_1 c1_2 c1_3 c2_0 c2_1 c2_2 c2_3 c0_f c1_f c2_f c0_l c1_l c2_l); have mk := MK.out _ hx'; have c0_0 : _ = some _ := mk.1.cell 0; have c0_1 : _ = some _ := mk.1.cell 1; have c0_2 : _ = some _ := mk.1.cell 2; have c0_3 : _ = some _ := mk.1.cell 3; have c0_f := mk.1.free; have c0_l := mk.1.lt; have c1_0 : _ = some _ := mk.2.1.cell 0; have c1_1 : _ = some _ := mk.2.1.cell 1; have c1_2 : _ = some _ := mk.2.1.cell 2; have c1_3 : _ = some _ := mk.2.1.cell 3; have c1_f := mk.2.1.free; have c1_l := mk.2.1.lt; have c2_0 : _ = some _ := mk.2.2.1.cell 0; have c2_1 : _ = some _ := mk.2.2.1.cell 1; have c2_2 : _ = some _ := mk.2.2.1.cell 2; have c2_3 : _ = some _ := mk.2.2.1.cell 3; have c2_f := mk.2.2.1.free; have c2_l := mk.2.2.1.lt; clear mk
  go_upto_region 3 with (first
    | (go_at_call 16; (with_reducible refine (b_may a _ MA.out W3 _ (by assumption)).mono ?_); rintro e w' ⟨rfl, hx'⟩; (try clear c0_0 c0_1 c0_2 c0_3 c1_0 c1_1 c1_2 c1_3 c2_0 c2_1 c2_2 c2_3 c0_f c1_f c2_f c0_l c1_l c2_l); have mk := MK.out _ hx'; have c0_0 : _ = some _ := mk.1.cell 0; have c0_1 : _ = some _ := mk.1.cell 1; have c0_2 : _ = some _ := mk.1.cell 2; have c0_3 : _ = some _ := mk.1.cell 3; have c0_f := mk.1.free; have c0_l := mk.1.lt; have c1_0 : _ = some _ := mk.2.1.cell 0; have c1_1 : _ = some _ := mk.2.1.cell 1; have c1_2 : _ = some _ := mk.2.1.cell 2; have c1_3 : _ = some _ := mk.2.1.cell 3; have c1_f := mk.2.1.free; have c1_l := mk.2.1.lt; have c2_0 : _ = some _ := mk.2.2.1.cell 0; have c2_1 : _ = some _ := mk.2.2.1.cell 1; have c2_2 : _ = some _ := mk.2.2.1.cell 2; have c2_3 : _ = some _ := mk.2.2.1.cell 3; have c2_f := mk.2.2.1.free; have c2_l := mk.2.2.1.lt; clear mk)
    | (go_at_call 16; (with_reducible refine (b_may b _ MB.out W3 _ (by assumption)).mono ?_); rintro e w' ⟨rfl, hx'⟩; (try clear c0_0 c0_1 c0_2 c0_3 c1_0 c1_1 c1_2 c1_3 c2_0 c2_1 c2_2 c2_3 c0_f c1_f c2_f c0_l c1_l c2_l); have mk := MK.out _ hx'; have c0_0 : _ = some _ := mk.1.cell 0; have c0_1 : _ = some _ := mk.1.cell 1; have c0_2 : _ = some _ := mk.1.cell 2; have c0_3 : _ = some _ := mk.1.cell 3; have c0_f := mk.1.free; have c0_l := mk.1.lt; have c1_0 : _ = some _ := mk.2.1.cell 0; have c1_1 : _ = some _ := mk.2.1.cell 1; have c1_2 : _ = some _ := mk.2.1.cell 2; have c1_3 : _ = some _ := mk.2.1.cell 3; have c1_f := mk.2.1.free; have c1_l := mk.2.1.lt; have c2_0 : _ = some _ := mk.2.2.1.cell 0; have c2_1 : _ = some _ := mk.2.2.1.cell 1; have c2_2 : _ = some _ := mk.2.2.1.cell 2; have c2_3 : _ = some _ := mk.2.2.1.cell 3; have c2_f := mk.2.2.1.free; have c2_l := mk.2.2.1.lt; clear mk)
    | fail)
  go_upto_region 3 with fail
  go_cut [8, 9, 10] (fun s8 s9 s10 wx => ∃ b8 b9, s8 = .pointer (some ⟨b8, 0, none⟩) ∧ s9 = .pointer (some ⟨b9, 0, none⟩) ∧ s10 = .bool true ∧ Hid ((Ext W3 wx ∧ Bk wx b8 #[.int .u64 a.ul, .int .u64 a.uh] 69 ∧ Bk wx b9 #[.int .i64 a.sl, .int .i64 a.sh] 72) ∧ W3.heap.size ≤ b8 ∧ W3.heap.size ≤ b9 ∧ b8 ≠ b9))
  case first =>
    as_aux_lemma =>
      have SK : Hid (∀ w', Ext W3 w' → Ext W3 w' ∧ w'.cell? ⟨w.heap.size, 0, none⟩ = some (.int .u64 a.ul) ∧ w'.cell? ⟨w.heap.size, 1, none⟩ = some (.int .u64 a.uh) ∧ w'.cell? ⟨w.heap.size, 2, none⟩ = some (.int .i64 a.sl) ∧ w'.cell? ⟨w.heap.size, 3, none⟩ = some (.int .i64 a.sh) ∧ w'.cell? ⟨w.heap.size + 1, 0, none⟩ = some (.int .u64 b.ul) ∧ w'.cell? ⟨w.heap.size + 1, 1, none⟩ = some (.int .u64 b.uh) ∧ w'.cell? ⟨w.heap.size + 1, 2, none⟩ = some (.int .i64 b.sl) ∧ w'.cell? ⟨w.heap.size + 1, 3, none⟩ = some (.int .i64 b.sh) ∧ w'.cell? ⟨w.heap.size + 1 + 1, 0, none⟩ = some (.int .u64 0) ∧ w'.cell? ⟨w.heap.size + 1 + 1, 1, none⟩ = some (.int .u64 0) ∧ w'.cell? ⟨w.heap.size + 1 + 1, 2, none⟩ = some (.int .i64 0) ∧ w'.cell? ⟨w.heap.size + 1 + 1, 3, none⟩ = some (.int .i64 0)) := hide (fun w' h => ⟨h, (MK.out _ h).1.cell 0, (MK.out _ h).1.cell 1, (MK.out _ h).1.cell 2, (MK.out _ h).1.cell 3, (MK.out _ h).2.1.cell 0, (MK.out _ h).2.1.cell 1, (MK.out _ h).2.1.cell 2, (MK.out _ h).2.1.cell 3, (MK.out _ h).2.2.1.cell 0, (MK.out _ h).2.2.1.cell 1, (MK.out _ h).2.2.1.cell 2, (MK.out _ h).2.2.1.cell 3⟩)
      have hxd := hx'.drew
      have hxd0 := hx'
      (try clear c0_0 c0_1 c0_2 c0_3 c1_0 c1_1 c1_2 c1_3 c2_0 c2_1 c2_2 c2_3 c0_f c1_f c2_f c0_l c1_l c2_l)
      go_region_held3 (fun w' => Ext W3 w' ∧ w'.cell? ⟨w.heap.size, 0, none⟩ = some (.int .u64 a.ul) ∧ w'.cell? ⟨w.heap.size, 1, none⟩ = some (.int .u64 a.uh) ∧ w'.cell? ⟨w.heap.size, 2, none⟩ = some (.int .i64 a.sl) ∧ w'.cell? ⟨w.heap.size, 3, none⟩ = some (.int .i64 a.sh) ∧ w'.cell? ⟨w.heap.size + 1, 0, none⟩ = some (.int .u64 b.ul) ∧ w'.cell? ⟨w.heap.size + 1, 1, none⟩ = some (.int .u64 b.uh) ∧ w'.cell? ⟨w.heap.size + 1, 2, none⟩ = some (.int .i64 b.sl) ∧ w'.cell? ⟨w.heap.size + 1, 3, none⟩ = some (.int .i64 b.sh) ∧ w'.cell? ⟨w.heap.size + 1 + 1, 0, none⟩ = some (.int .u64 0) ∧ w'.cell? ⟨w.heap.size + 1 + 1, 1, none⟩ = some (.int .u64 0) ∧ w'.cell? ⟨w.heap.size + 1 + 1, 2, none⟩ = some (.int .i64 0) ∧ w'.cell? ⟨w.heap.size + 1 + 1, 3, none⟩ = some (.int .i64 0))
        ((refine SK.out _ ?_; repeat (with_reducible first | assumption | exact hxd1 | exact hxd2 | apply Ext.alloc | apply Ext.drew | (refine Ext.store1 ?_ ?_ _; rotate_left 1; (have := hxd0.size; (try have := hxd1.size); (try have := hxd2.size); first | (simp; done) | (simp; omega) | omega)))))
        (first
        | (go_at_call 50; have hq := And.left ‹Ext W3 _ ∧ _›; (with_reducible refine (b_uns a _ _ (Ext.refl _)).mono ?_); rintro e wa ⟨rfl, hy⟩; have hyo := hy; (try (with_reducible replace hy := Ext.undrew hy)); have hxd1 : Ext W3 wa := hq.trans hyo; clear hq; (try (have p := P1.out.ext (by with_reducible first | exact hy | exact ((Ext.refl _).alloc _).trans hy | exact (((Ext.refl _).alloc _).alloc _).trans hy); have ne1 := Nat.ne_of_lt p1l; have nf1 := Nat.ne_of_gt p1l; clear p10 p11 p1f P1; have P1 := hide p; have p1l := p.lt; have p10 : _ = some _ := p.cell 0; have p11 : _ = some _ := p.cell 1; have p1f := p.free; clear p)); (try (have p := P2.out.ext (by with_reducible first | exact hy | exact ((Ext.refl _).alloc _).trans hy | exact (((Ext.refl _).alloc _).alloc _).trans hy); have ne2 := Nat.ne_of_lt p2l; have nf2 := Nat.ne_of_gt p2l; clear p20 p21 p2f P2; have P2 := hide p; have p2l := p.lt; have p20 : _ = some _ := p.cell 0; have p21 : _ = some _ := p.cell 1; have p2f := p.free; clear p)); (first | (with_reducible have pp := bk2p hy; have p := pp.2; have P2 := hide p; have p2l := p.lt; have p20 : _ = some _ := p.cell 0; have p21 : _ = some _ := p.cell 1; have p2f := p.free; clear p; have p := pp.1; have P1 := hide p; have p1l := p.lt; have p10 : _ = some _ := p.cell 0; have p11 : _ = some _ := p.cell 1; have p1f := p.free; clear p; clear pp) | (with_reducible have p := (bk1 hy).1; first | (have _h := P1.out; clear _h; have P2 := hide p; have p2l := p.lt; have p20 : _ = some _ := p.cell 0; have p21 : _ = some _ := p.cell 1; have p2f := p.free; clear p) | (have P1 := hide p; have p1l := p.lt; have p10 : _ = some _ := p.cell 0; have p11 : _ = some _ := p.cell 1; have p1f := p.free; clear p)) | skip); clear hy hyo)
        | (go_at_call 51; have hq := And.left ‹Ext W3 _ ∧ _›; (with_reducible refine (b_sig a _ _ (Ext.refl _)).mono ?_); rintro e wb ⟨rfl, hy⟩; have hyo := hy; (try (with_reducible replace hy := Ext.undrew hy)); have hxd2 : Ext W3 wb := hq.trans hyo; clear hq; (try (have p := P1.out.ext (by with_reducible first | exact hy | exact ((Ext.refl _).alloc _).trans hy | exact (((Ext.refl _).alloc _).alloc _).trans hy); have ne1 := Nat.ne_of_lt p1l; have nf1 := Nat.ne_of_gt p1l; clear p10 p11 p1f P1; have P1 := hide p; have p1l := p.lt; have p10 : _ = some _ := p.cell 0; have p11 : _ = some _ := p.cell 1; have p1f := p.free; clear p)); (try (have p := P2.out.ext (by with_reducible first | exact hy | exact ((Ext.refl _).alloc _).trans hy | exact (((Ext.refl _).alloc _).alloc _).trans hy); have ne2 := Nat.ne_of_lt p2l; have nf2 := Nat.ne_of_gt p2l; clear p20 p21 p2f P2; have P2 := hide p; have p2l := p.lt; have p20 : _ = some _ := p.cell 0; have p21 : _ = some _ := p.cell 1; have p2f := p.free; clear p)); (first | (with_reducible have pp := bk2p hy; have p := pp.2; have P2 := hide p; have p2l := p.lt; have p20 : _ = some _ := p.cell 0; have p21 : _ = some _ := p.cell 1; have p2f := p.free; clear p; have p := pp.1; have P1 := hide p; have p1l := p.lt; have p10 : _ = some _ := p.cell 0; have p11 : _ = some _ := p.cell 1; have p1f := p.free; clear p; clear pp) | (with_reducible have p := (bk1 hy).1; first | (have _h := P1.out; clear _h; have P2 := hide p; have p2l := p.lt; have p20 : _ = some _ := p.cell 0; have p21 : _ = some _ := p.cell 1; have p2f := p.free; clear p) | (have P1 := hide p; have p1l := p.lt; have p10 : _ = some _ := p.cell 0; have p11 : _ = some _ := p.cell 1; have p1f := p.free; clear p)) | skip); clear hy hyo))
      all_goals
        go_wp2_with fail
        go_meet
        have s0 := hxd0.size
        have s1 := hxd1.size
        have s2 := hxd2.size
        refine ⟨_, _, rfl, rfl, rfl, hide ⟨⟨?_, ?_, ?_⟩, ?_, ?_, ?_⟩⟩
        · with_reducible first
          | exact (hxd2.alloc _).alloc _
          | exact (Ext.store2 hxd2 (by omega) _ _).alloc _
          | exact Ext.store2 (Ext.store2 hxd2 (by omega) _ _) (by omega) _ _
        all_goals with_reducible first
          | exact (bk2p (Ext.refl _)).1
          | exact (bk2p (Ext.refl _)).2
          | exact Bk.new2s
          | exact (Bk.put2 P1.out _ _).ext ((Ext.refl _).alloc _)
          | exact (Bk.put2 P2.out _ _).ext ((Ext.refl _).alloc _)
          | exact Bk.put2 (Bk.off2 P1.out _ _ _ (by omega)) _ _
          | exact Bk.off2 (Bk.put2 P1.out _ _) _ _ _ (by omega)
          | exact Bk.put2 (Bk.off2 P2.out _ _ _ (by omega)) _ _
          | exact Bk.off2 (Bk.put2 P2.out _ _) _ _ _ (by omega)
          | omega
  case rest =>
    as_aux_lemma =>
      obtain ⟨b8, b9, rfl, rfl, rfl, HC⟩ := hcut
      obtain ⟨wq, hwq⟩ : ∃ wq, wq = wc := ⟨_, rfl⟩
      subst hwq
      have MC1 := hide (fun w2 (h : Ext wq w2) => (⟨HC.out.1.2.1.ext h, HC.out.1.2.2.ext h, MK.out w2 (HC.out.1.1.trans h)⟩ : Bk w2 (b8) #[.int .u64 a.ul, .int .u64 a.uh] 69 ∧ Bk w2 (b9) #[.int .i64 a.sl, .int .i64 a.sh] 72 ∧ _))
      have xC1 : Ext w wq := x3.trans HC.out.1.1
      have lb8 : w.heap.size ≤ b8 := Nat.le_trans x3.size HC.out.2.1
      have lb9 : w.heap.size ≤ b9 := Nat.le_trans x3.size HC.out.2.2.1
      have n89 := HC.out.2.2.2
      have nb8_0 : b8 ≠ w.heap.size := by
        have h1 := (MK.out _ (Ext.refl _)).1.lt
        have h2 := HC.out.2.1
        omega
      have nb9_0 : b9 ≠ w.heap.size := by
        have h1 := (MK.out _ (Ext.refl _)).1.lt
        have h2 := HC.out.2.2.1
        omega
      have nb8_1 : b8 ≠ w.heap.size + 1 := by
        have h1 := (MK.out _ (Ext.refl _)).2.1.lt
        have h2 := HC.out.2.1
        omega
      have nb9_1 : b9 ≠ w.heap.size + 1 := by
        have h1 := (MK.out _ (Ext.refl _)).2.1.lt
        have h2 := HC.out.2.2.1
        omega
      have nb8_2 : b8 ≠ w.heap.size + 1 + 1 := by
        have h1 := (MK.out _ (Ext.refl _)).2.2.1.lt
        have h2 := HC.out.2.1
        omega
      have nb9_2 : b9 ≠ w.heap.size + 1 + 1 := by
        have h1 := (MK.out _ (Ext.refl _)).2.2.1.lt
        have h2 := HC.out.2.2.1
        omega
      (try clear c0_0 c0_1 c0_2 c0_3 c1_0 c1_1 c1_2 c1_3 c2_0 c2_1 c2_2 c2_3 c0_f c1_f c2_f c0_l c1_l c2_l)
      try clear hx'
      have hx' : Ext wq wq := Ext.refl _
      (try clear c0_0 c0_1 c1_0 c1_1 c2_0 c2_1 c2_2 c2_3 c3_0 c3_1 c3_2 c3_3 c4_0 c4_1 c4_2 c4_3 c0_f c1_f c2_f c3_f c4_f c0_l c1_l c2_l c3_l c4_l); have mk := MC1.out _ hx'; have c0_0 : _ = some _ := mk.1.cell 0; have c0_1 : _ = some _ := mk.1.cell 1; have c0_f := mk.1.free; have c0_l := mk.1.lt; have c1_0 : _ = some _ := mk.2.1.cell 0; have c1_1 : _ = some _ := mk.2.1.cell 1; have c1_f := mk.2.1.free; have c1_l := mk.2.1.lt; have c2_0 : _ = some _ := mk.2.2.1.cell 0; have c2_1 : _ = some _ := mk.2.2.1.cell 1; have c2_2 : _ = some _ := mk.2.2.1.cell 2; have c2_3 : _ = some _ := mk.2.2.1.cell 3; have c2_f := mk.2.2.1.free; have c2_l := mk.2.2.1.lt; have c3_0 : _ = some _ := mk.2.2.2.1.cell 0; have c3_1 : _ = some _ := mk.2.2.2.1.cell 1; have c3_2 : _ = some _ := mk.2.2.2.1.cell 2; have c3_3 : _ = some _ := mk.2.2.2.1.cell 3; have c3_f := mk.2.2.2.1.free; have c3_l := mk.2.2.2.1.lt; have c4_0 : _ = some _ := mk.2.2.2.2.1.cell 0; have c4_1 : _ = some _ := mk.2.2.2.2.1.cell 1; have c4_2 : _ = some _ := mk.2.2.2.2.1.cell 2; have c4_3 : _ = some _ := mk.2.2.2.2.1.cell 3; have c4_f := mk.2.2.2.2.1.free; have c4_l := mk.2.2.2.2.1.lt; clear mk
      clear c0 c10 cn cm
      have hcc := CC.out
      clear CC
      rcases hcc with rfl | rfl
      · as_aux_lemma =>
          have hm : (b.ul == 18446744073709551615) = true ∨ (b.ul == 18446744073709551615) = false := by cases (b.ul == 18446744073709551615) <;> simp
          rcases hm with hm | hm
          · as_aux_lemma =>
              obtain ⟨x, hx0⟩ : ∃ x, pab IntKind.u64.wrap (max a.ul) (b.ul + 1) b.ul true 18446744073709551615 a.ul = x := ⟨_, rfl⟩
              have KT : Hid ((!(true && (b.ul == 18446744073709551615))) = false) := hide (by simp [hm])
              have EC : Hid (bcan 2 a b = false) := hide (by simp [bcan]; simpa using hm)
              have X0 := hide hx0
              clear hx0 hm
              go_upto_block 0 with fail
              have MS : Hid (∀ w2, Ext wq w2 → Ext w ((w2.setCell ⟨b8, 0, none⟩ (.int .u64 x)).setCell ⟨b8, 1, none⟩ (.int .u64 a.uh)) ∧ Bk ((w2.setCell ⟨b8, 0, none⟩ (.int .u64 x)).setCell ⟨b8, 1, none⟩ (.int .u64 a.uh)) (b8) #[.int .u64 x, .int .u64 a.uh] 69 ∧ Bk ((w2.setCell ⟨b8, 0, none⟩ (.int .u64 x)).setCell ⟨b8, 1, none⟩ (.int .u64 a.uh)) (b9) #[.int .i64 a.sl, .int .i64 a.sh] 72 ∧ Bk ((w2.setCell ⟨b8, 0, none⟩ (.int .u64 x)).setCell ⟨b8, 1, none⟩ (.int .u64 a.uh)) (w.heap.size) #[.int .u64 a.ul, .int .u64 a.uh, .int .i64 a.sl, .int .i64 a.sh] 24 ∧ Bk ((w2.setCell ⟨b8, 0, none⟩ (.int .u64 x)).setCell ⟨b8, 1, none⟩ (.int .u64 a.uh)) (w.heap.size + 1) #[.int .u64 b.ul, .int .u64 b.uh, .int .i64 b.sl, .int .i64 b.sh] 24 ∧ Bk ((w2.setCell ⟨b8, 0, none⟩ (.int .u64 x)).setCell ⟨b8, 1, none⟩ (.int .u64 a.uh)) (w.heap.size + 1 + 1) #[.int .u64 0, .int .u64 0, .int .i64 0, .int .i64 0] 24 ∧ True) := hide (fun w2 h => by
                have mk := MC1.out _ h
                exact ⟨(Ext.store1 (Ext.store1 (xC1.trans h) (by omega) _) (by omega) _), ((mk.1.set 0 (.int .u64 x)).set 1 (.int .u64 a.uh)), ((mk.2.1.off (b8) 0 (.int .u64 x) (by omega)).off (b8) 1 (.int .u64 a.uh) (by omega)), ((mk.2.2.1.off (b8) 0 (.int .u64 x) (by omega)).off (b8) 1 (.int .u64 a.uh) (by omega)), ((mk.2.2.2.1.off (b8) 0 (.int .u64 x) (by omega)).off (b8) 1 (.int .u64 a.uh) (by omega)), ((mk.2.2.2.2.1.off (b8) 0 (.int .u64 x) (by omega)).off (b8) 1 (.int .u64 a.uh) (by omega)), trivial⟩)
              go_cut [10] (fun s10 wx => s10 = .bool false ∧ Hid (Ext w wx ∧ Bk wx (b8) #[.int .u64 x, .int .u64 a.uh] 69 ∧ Bk wx (b9) #[.int .i64 a.sl, .int .i64 a.sh] 72 ∧ Bk wx (w.heap.size) #[.int .u64 a.ul, .int .u64 a.uh, .int .i64 a.sl, .int .i64 a.sh] 24 ∧ Bk wx (w.heap.size + 1) #[.int .u64 b.ul, .int .u64 b.uh, .int .i64 b.sl, .int .i64 b.sh] 24 ∧ Bk wx (w.heap.size + 1 + 1) #[.int .u64 0, .int .u64 0, .int .i64 0, .int .i64 0] 24 ∧ True))
              case first =>
                as_aux_lemma =>
                  go_wp2_with fail
                  go_region_with (first
                    | (go_at_call 50; (with_reducible refine (b_uns b wq _ (by first | assumption | exact hx'.drew)).mono ?_); rintro e w' ⟨rfl, hx'⟩; (try clear c0_0 c0_1 c1_0 c1_1 c2_0 c2_1 c2_2 c2_3 c3_0 c3_1 c3_2 c3_3 c4_0 c4_1 c4_2 c4_3 c0_f c1_f c2_f c3_f c4_f c0_l c1_l c2_l c3_l c4_l); have mk := MC1.out _ hx'; have c0_0 : _ = some _ := mk.1.cell 0; have c0_1 : _ = some _ := mk.1.cell 1; have c0_f := mk.1.free; have c0_l := mk.1.lt; have c1_0 : _ = some _ := mk.2.1.cell 0; have c1_1 : _ = some _ := mk.2.1.cell 1; have c1_f := mk.2.1.free; have c1_l := mk.2.1.lt; have c2_0 : _ = some _ := mk.2.2.1.cell 0; have c2_1 : _ = some _ := mk.2.2.1.cell 1; have c2_2 : _ = some _ := mk.2.2.1.cell 2; have c2_3 : _ = some _ := mk.2.2.1.cell 3; have c2_f := mk.2.2.1.free; have c2_l := mk.2.2.1.lt; have c3_0 : _ = some _ := mk.2.2.2.1.cell 0; have c3_1 : _ = some _ := mk.2.2.2.1.cell 1; have c3_2 : _ = some _ := mk.2.2.2.1.cell 2; have c3_3 : _ = some _ := mk.2.2.2.1.cell 3; have c3_f := mk.2.2.2.1.free; have c3_l := mk.2.2.2.1.lt; have c4_0 : _ = some _ := mk.2.2.2.2.1.cell 0; have c4_1 : _ = some _ := mk.2.2.2.2.1.cell 1; have c4_2 : _ = some _ := mk.2.2.2.2.1.cell 2; have c4_3 : _ = some _ := mk.2.2.2.2.1.cell 3; have c4_f := mk.2.2.2.2.1.free; have c4_l := mk.2.2.2.2.1.lt; clear mk)
                    | (go_at_call 62; (with_reducible refine (b_uabovel a.ul a.uh b.ul b.uh true 18446744073709551615 x _ X0.out KT.out wq _ (by first | assumption | exact hx'.drew)).mono ?_); rintro e w' ⟨rfl, hx'⟩; (try clear c0_0 c0_1 c1_0 c1_1 c2_0 c2_1 c2_2 c2_3 c3_0 c3_1 c3_2 c3_3 c4_0 c4_1 c4_2 c4_3 c0_f c1_f c2_f c3_f c4_f c0_l c1_l c2_l c3_l c4_l); have mk := MC1.out _ hx'; have c0_0 : _ = some _ := mk.1.cell 0; have c0_1 : _ = some _ := mk.1.cell 1; have c0_f := mk.1.free; have c0_l := mk.1.lt; have c1_0 : _ = some _ := mk.2.1.cell 0; have c1_1 : _ = some _ := mk.2.1.cell 1; have c1_f := mk.2.1.free; have c1_l := mk.2.1.lt; have c2_0 : _ = some _ := mk.2.2.1.cell 0; have c2_1 : _ = some _ := mk.2.2.1.cell 1; have c2_2 : _ = some _ := mk.2.2.1.cell 2; have c2_3 : _ = some _ := mk.2.2.1.cell 3; have c2_f := mk.2.2.1.free; have c2_l := mk.2.2.1.lt; have c3_0 : _ = some _ := mk.2.2.2.1.cell 0; have c3_1 : _ = some _ := mk.2.2.2.1.cell 1; have c3_2 : _ = some _ := mk.2.2.2.1.cell 2; have c3_3 : _ = some _ := mk.2.2.2.1.cell 3; have c3_f := mk.2.2.2.1.free; have c3_l := mk.2.2.2.1.lt; have c4_0 : _ = some _ := mk.2.2.2.2.1.cell 0; have c4_1 : _ = some _ := mk.2.2.2.2.1.cell 1; have c4_2 : _ = some _ := mk.2.2.2.2.1.cell 2; have c4_3 : _ = some _ := mk.2.2.2.2.1.cell 3; have c4_f := mk.2.2.2.2.1.free; have c4_l := mk.2.2.2.2.1.lt; clear mk)
                    | fail)
                  all_goals
                    go_wp2_with fail
                    go_meet
                    exact ⟨rfl, hide (MS.out _ (by first | assumption | exact hx'.drew))⟩
              case rest =>
                obtain ⟨rfl, HE⟩ := hcut
                have ME := hide (fun w2 (h : Ext wc w2) => (⟨HE.out.2.1.ext h, HE.out.2.2.1.ext h, HE.out.2.2.2.1.ext h, HE.out.2.2.2.2.1.ext h, HE.out.2.2.2.2.2.1.ext h, trivial⟩ : Bk w2 (b8) #[.int .u64 x, .int .u64 a.uh] 69 ∧ Bk w2 (b9) #[.int .i64 a.sl, .int .i64 a.sh] 72 ∧ Bk w2 (w.heap.size) #[.int .u64 a.ul, .int .u64 a.uh, .int .i64 a.sl, .int .i64 a.sh] 24 ∧ Bk w2 (w.heap.size + 1) #[.int .u64 b.ul, .int .u64 b.uh, .int .i64 b.sl, .int .i64 b.sh] 24 ∧ Bk w2 (w.heap.size + 1 + 1) #[.int .u64 0, .int .u64 0, .int .i64 0, .int .i64 0] 24 ∧ True))
                have xE : Ext w wc := HE.out.1
                (try clear c0_0 c0_1 c1_0 c1_1 c2_0 c2_1 c2_2 c2_3 c3_0 c3_1 c3_2 c3_3 c4_0 c4_1 c4_2 c4_3 c0_f c1_f c2_f c3_f c4_f c0_l c1_l c2_l c3_l c4_l)
                have hx' : Ext wc wc := Ext.refl _
                (try clear c0_0 c0_1 c1_0 c1_1 c2_0 c2_1 c2_2 c2_3 c3_0 c3_1 c3_2 c3_3 c4_0 c4_1 c4_2 c4_3 c0_f c1_f c2_f c3_f c4_f c0_l c1_l c2_l c3_l c4_l); have mk := ME.out _ hx'; have c0_0 : _ = some _ := mk.1.cell 0; have c0_1 : _ = some _ := mk.1.cell 1; have c0_f := mk.1.free; have c0_l := mk.1.lt; have c1_0 : _ = some _ := mk.2.1.cell 0; have c1_1 : _ = some _ := mk.2.1.cell 1; have c1_f := mk.2.1.free; have c1_l := mk.2.1.lt; have c2_0 : _ = some _ := mk.2.2.1.cell 0; have c2_1 : _ = some _ := mk.2.2.1.cell 1; have c2_2 : _ = some _ := mk.2.2.1.cell 2; have c2_3 : _ = some _ := mk.2.2.1.cell 3; have c2_f := mk.2.2.1.free; have c2_l := mk.2.2.1.lt; have c3_0 : _ = some _ := mk.2.2.2.1.cell 0; have c3_1 : _ = some _ := mk.2.2.2.1.cell 1; have c3_2 : _ = some _ := mk.2.2.2.1.cell 2; have c3_3 : _ = some _ := mk.2.2.2.1.cell 3; have c3_f := mk.2.2.2.1.free; have c3_l := mk.2.2.2.1.lt; have c4_0 : _ = some _ := mk.2.2.2.2.1.cell 0; have c4_1 : _ = some _ := mk.2.2.2.2.1.cell 1; have c4_2 : _ = some _ := mk.2.2.2.2.1.cell 2; have c4_3 : _ = some _ := mk.2.2.2.2.1.cell 3; have c4_f := mk.2.2.2.2.1.free; have c4_l := mk.2.2.2.2.1.lt; clear mk
                go_wp2_with (first
                  | (go_at_call 13; (with_reducible refine (b_all wc _ (by assumption)).mono ?_); rintro e w' ⟨rfl, hx'⟩; (try clear c0_0 c0_1 c1_0 c1_1 c2_0 c2_1 c2_2 c2_3 c3_0 c3_1 c3_2 c3_3 c4_0 c4_1 c4_2 c4_3 c0_f c1_f c2_f c3_f c4_f c0_l c1_l c2_l c3_l c4_l); have mk := ME.out _ hx'; have c0_0 : _ = some _ := mk.1.cell 0; have c0_1 : _ = some _ := mk.1.cell 1; have c0_f := mk.1.free; have c0_l := mk.1.lt; have c1_0 : _ = some _ := mk.2.1.cell 0; have c1_1 : _ = some _ := mk.2.1.cell 1; have c1_f := mk.2.1.free; have c1_l := mk.2.1.lt; have c2_0 : _ = some _ := mk.2.2.1.cell 0; have c2_1 : _ = some _ := mk.2.2.1.cell 1; have c2_2 : _ = some _ := mk.2.2.1.cell 2; have c2_3 : _ = some _ := mk.2.2.1.cell 3; have c2_f := mk.2.2.1.free; have c2_l := mk.2.2.1.lt; have c3_0 : _ = some _ := mk.2.2.2.1.cell 0; have c3_1 : _ = some _ := mk.2.2.2.1.cell 1; have c3_2 : _ = some _ := mk.2.2.2.1.cell 2; have c3_3 : _ = some _ := mk.2.2.2.1.cell 3; have c3_f := mk.2.2.2.1.free; have c3_l := mk.2.2.2.1.lt; have c4_0 : _ = some _ := mk.2.2.2.2.1.cell 0; have c4_1 : _ = some _ := mk.2.2.2.2.1.cell 1; have c4_2 : _ = some _ := mk.2.2.2.2.1.cell 2; have c4_3 : _ = some _ := mk.2.2.2.2.1.cell 3; have c4_f := mk.2.2.2.2.1.free; have c4_l := mk.2.2.2.2.1.lt; clear mk)
                  | fail)
                exact bodyPost_ret (v := .tuple #[.agg #[.int .u64 ball.ul, .int .u64 ball.uh, .int .i64 ball.sl, .int .i64 ball.sh], .bool false]) (by simp [results, Try.results19, go_sem, c4_0, c4_1, c4_2, c4_3, c4_l, Nat.ne_of_lt c4_l, Nat.ne_of_gt c4_l] <;> (first | exact ⟨rfl, rfl⟩ | exact ⟨rfl, rfl, rfl, rfl⟩ | exact ⟨⟨rfl, rfl, rfl, rfl⟩, rfl⟩ | exact ⟨rfl, rfl, rfl, rfl, rfl⟩ | rfl)) rfl ⟨by rw [(bgiv_not (.inr ⟨by omega, EC.out⟩)).1, (bgiv_not (cc := 2) (.inr ⟨by omega, EC.out⟩)).2], by (refine hx.trans ?_; with_reducible repeat (first | assumption | exact xE.trans hx' | exact xE.trans (by assumption) | apply Ext.alloc | apply Ext.drew | (refine Ext.store1 ?_ (by omega) _)))⟩
          · as_aux_lemma =>
              obtain ⟨x, hx0⟩ : ∃ x, pab IntKind.u64.wrap (max a.ul) (b.ul + 1) b.ul true 18446744073709551615 a.ul = x := ⟨_, rfl⟩
              have KT : Hid ((!(true && (b.ul == 18446744073709551615))) = true) := hide (by simp [hm])
              have EC : Hid (bcan 2 a b = true) := hide (by simp [bcan]; simpa using hm)
              have EB : Hid (brng 2 a b = (⟨x, a.uh, a.sl, a.sh⟩ : Rg)) := hide (by
                rw [← hx0]
                obtain ⟨⟨b0, b1⟩, ⟨b2, b3⟩, ⟨b4, b5⟩, b6, b7⟩ := HB.out
                have hm' := hm
                simp at hm'
                simp [brng, pab, hm]
                try (rw [show IntKind.u64.wrap (b.ul + 1) = (b.ul + 1) from by rw [w_u64]; omega])
              )
              have X0 := hide hx0
              clear hx0 hm
              go_upto_block 0 with fail
              have MS : Hid (∀ w2, Ext wq w2 → Ext w ((w2.setCell ⟨b8, 0, none⟩ (.int .u64 x)).setCell ⟨b8, 1, none⟩ (.int .u64 a.uh)) ∧ Bk ((w2.setCell ⟨b8, 0, none⟩ (.int .u64 x)).setCell ⟨b8, 1, none⟩ (.int .u64 a.uh)) (b8) #[.int .u64 x, .int .u64 a.uh] 69 ∧ Bk ((w2.setCell ⟨b8, 0, none⟩ (.int .u64 x)).setCell ⟨b8, 1, none⟩ (.int .u64 a.uh)) (b9) #[.int .i64 a.sl, .int .i64 a.sh] 72 ∧ Bk ((w2.setCell ⟨b8, 0, none⟩ (.int .u64 x)).setCell ⟨b8, 1, none⟩ (.int .u64 a.uh)) (w.heap.size) #[.int .u64 a.ul, .int .u64 a.uh, .int .i64 a.sl, .int .i64 a.sh] 24 ∧ Bk ((w2.setCell ⟨b8, 0, none⟩ (.int .u64 x)).setCell ⟨b8, 1, none⟩ (.int .u64 a.uh)) (w.heap.size + 1) #[.int .u64 b.ul, .int .u64 b.uh, .int .i64 b.sl, .int .i64 b.sh] 24 ∧ Bk ((w2.setCell ⟨b8, 0, none⟩ (.int .u64 x)).setCell ⟨b8, 1, none⟩ (.int .u64 a.uh)) (w.heap.size + 1 + 1) #[.int .u64 0, .int .u64 0, .int .i64 0, .int .i64 0] 24 ∧ True) := hide (fun w2 h => by
                have mk := MC1.out _ h
                exact ⟨(Ext.store1 (Ext.store1 (xC1.trans h) (by omega) _) (by omega) _), ((mk.1.set 0 (.int .u64 x)).set 1 (.int .u64 a.uh)), ((mk.2.1.off (b8) 0 (.int .u64 x) (by omega)).off (b8) 1 (.int .u64 a.uh) (by omega)), ((mk.2.2.1.off (b8) 0 (.int .u64 x) (by omega)).off (b8) 1 (.int .u64 a.uh) (by omega)), ((mk.2.2.2.1.off (b8) 0 (.int .u64 x) (by omega)).off (b8) 1 (.int .u64 a.uh) (by omega)), ((mk.2.2.2.2.1.off (b8) 0 (.int .u64 x) (by omega)).off (b8) 1 (.int .u64 a.uh) (by omega)), trivial⟩)
              go_cut [10] (fun s10 wx => s10 = .bool true ∧ Hid (Ext w wx ∧ Bk wx (b8) #[.int .u64 x, .int .u64 a.uh] 69 ∧ Bk wx (b9) #[.int .i64 a.sl, .int .i64 a.sh] 72 ∧ Bk wx (w.heap.size) #[.int .u64 a.ul, .int .u64 a.uh, .int .i64 a.sl, .int .i64 a.sh] 24 ∧ Bk wx (w.heap.size + 1) #[.int .u64 b.ul, .int .u64 b.uh, .int .i64 b.sl, .int .i64 b.sh] 24 ∧ Bk wx (w.heap.size + 1 + 1) #[.int .u64 0, .int .u64 0, .int .i64 0, .int .i64 0] 24 ∧ True))
              case first =>
                as_aux_lemma =>
                  go_wp2_with fail
                  go_region_with (first
                    | (go_at_call 50; (with_reducible refine (b_uns b wq _ (by first | assumption | exact hx'.drew)).mono ?_); rintro e w' ⟨rfl, hx'⟩; (try clear c0_0 c0_1 c1_0 c1_1 c2_0 c2_1 c2_2 c2_3 c3_0 c3_1 c3_2 c3_3 c4_0 c4_1 c4_2 c4_3 c0_f c1_f c2_f c3_f c4_f c0_l c1_l c2_l c3_l c4_l); have mk := MC1.out _ hx'; have c0_0 : _ = some _ := mk.1.cell 0; have c0_1 : _ = some _ := mk.1.cell 1; have c0_f := mk.1.free; have c0_l := mk.1.lt; have c1_0 : _ = some _ := mk.2.1.cell 0; have c1_1 : _ = some _ := mk.2.1.cell 1; have c1_f := mk.2.1.free; have c1_l := mk.2.1.lt; have c2_0 : _ = some _ := mk.2.2.1.cell 0; have c2_1 : _ = some _ := mk.2.2.1.cell 1; have c2_2 : _ = some _ := mk.2.2.1.cell 2; have c2_3 : _ = some _ := mk.2.2.1.cell 3; have c2_f := mk.2.2.1.free; have c2_l := mk.2.2.1.lt; have c3_0 : _ = some _ := mk.2.2.2.1.cell 0; have c3_1 : _ = some _ := mk.2.2.2.1.cell 1; have c3_2 : _ = some _ := mk.2.2.2.1.cell 2; have c3_3 : _ = some _ := mk.2.2.2.1.cell 3; have c3_f := mk.2.2.2.1.free; have c3_l := mk.2.2.2.1.lt; have c4_0 : _ = some _ := mk.2.2.2.2.1.cell 0; have c4_1 : _ = some _ := mk.2.2.2.2.1.cell 1; have c4_2 : _ = some _ := mk.2.2.2.2.1.cell 2; have c4_3 : _ = some _ := mk.2.2.2.2.1.cell 3; have c4_f := mk.2.2.2.2.1.free; have c4_l := mk.2.2.2.2.1.lt; clear mk)
                    | (go_at_call 62; (with_reducible refine (b_uabovel a.ul a.uh b.ul b.uh true 18446744073709551615 x _ X0.out KT.out wq _ (by first | assumption | exact hx'.drew)).mono ?_); rintro e w' ⟨rfl, hx'⟩; (try clear c0_0 c0_1 c1_0 c1_1 c2_0 c2_1 c2_2 c2_3 c3_0 c3_1 c3_2 c3_3 c4_0 c4_1 c4_2 c4_3 c0_f c1_f c2_f c3_f c4_f c0_l c1_l c2_l c3_l c4_l); have mk := MC1.out _ hx'; have c0_0 : _ = some _ := mk.1.cell 0; have c0_1 : _ = some _ := mk.1.cell 1; have c0_f := mk.1.free; have c0_l := mk.1.lt; have c1_0 : _ = some _ := mk.2.1.cell 0; have c1_1 : _ = some _ := mk.2.1.cell 1; have c1_f := mk.2.1.free; have c1_l := mk.2.1.lt; have c2_0 : _ = some _ := mk.2.2.1.cell 0; have c2_1 : _ = some _ := mk.2.2.1.cell 1; have c2_2 : _ = some _ := mk.2.2.1.cell 2; have c2_3 : _ = some _ := mk.2.2.1.cell 3; have c2_f := mk.2.2.1.free; have c2_l := mk.2.2.1.lt; have c3_0 : _ = some _ := mk.2.2.2.1.cell 0; have c3_1 : _ = some _ := mk.2.2.2.1.cell 1; have c3_2 : _ = some _ := mk.2.2.2.1.cell 2; have c3_3 : _ = some _ := mk.2.2.2.1.cell 3; have c3_f := mk.2.2.2.1.free; have c3_l := mk.2.2.2.1.lt; have c4_0 : _ = some _ := mk.2.2.2.2.1.cell 0; have c4_1 : _ = some _ := mk.2.2.2.2.1.cell 1; have c4_2 : _ = some _ := mk.2.2.2.2.1.cell 2; have c4_3 : _ = some _ := mk.2.2.2.2.1.cell 3; have c4_f := mk.2.2.2.2.1.free; have c4_l := mk.2.2.2.2.1.lt; clear mk)
                    | fail)
                  all_goals
                    go_wp2_with fail
                    go_meet
                    exact ⟨rfl, hide (MS.out _ (by first | assumption | exact hx'.drew))⟩
              case rest =>
                obtain ⟨rfl, HE⟩ := hcut
                have ME := hide (fun w2 (h : Ext wc w2) => (⟨HE.out.2.1.ext h, HE.out.2.2.1.ext h, HE.out.2.2.2.1.ext h, HE.out.2.2.2.2.1.ext h, HE.out.2.2.2.2.2.1.ext h, trivial⟩ : Bk w2 (b8) #[.int .u64 x, .int .u64 a.uh] 69 ∧ Bk w2 (b9) #[.int .i64 a.sl, .int .i64 a.sh] 72 ∧ Bk w2 (w.heap.size) #[.int .u64 a.ul, .int .u64 a.uh, .int .i64 a.sl, .int .i64 a.sh] 24 ∧ Bk w2 (w.heap.size + 1) #[.int .u64 b.ul, .int .u64 b.uh, .int .i64 b.sl, .int .i64 b.sh] 24 ∧ Bk w2 (w.heap.size + 1 + 1) #[.int .u64 0, .int .u64 0, .int .i64 0, .int .i64 0] 24 ∧ True))
                have xE : Ext w wc := HE.out.1
                (try clear c0_0 c0_1 c1_0 c1_1 c2_0 c2_1 c2_2 c2_3 c3_0 c3_1 c3_2 c3_3 c4_0 c4_1 c4_2 c4_3 c0_f c1_f c2_f c3_f c4_f c0_l c1_l c2_l c3_l c4_l)
                have hx' : Ext wc wc := Ext.refl _
                (try clear c0_0 c0_1 c1_0 c1_1 c2_0 c2_1 c2_2 c2_3 c3_0 c3_1 c3_2 c3_3 c4_0 c4_1 c4_2 c4_3 c0_f c1_f c2_f c3_f c4_f c0_l c1_l c2_l c3_l c4_l); have mk := ME.out _ hx'; have c0_0 : _ = some _ := mk.1.cell 0; have c0_1 : _ = some _ := mk.1.cell 1; have c0_f := mk.1.free; have c0_l := mk.1.lt; have c1_0 : _ = some _ := mk.2.1.cell 0; have c1_1 : _ = some _ := mk.2.1.cell 1; have c1_f := mk.2.1.free; have c1_l := mk.2.1.lt; have c2_0 : _ = some _ := mk.2.2.1.cell 0; have c2_1 : _ = some _ := mk.2.2.1.cell 1; have c2_2 : _ = some _ := mk.2.2.1.cell 2; have c2_3 : _ = some _ := mk.2.2.1.cell 3; have c2_f := mk.2.2.1.free; have c2_l := mk.2.2.1.lt; have c3_0 : _ = some _ := mk.2.2.2.1.cell 0; have c3_1 : _ = some _ := mk.2.2.2.1.cell 1; have c3_2 : _ = some _ := mk.2.2.2.1.cell 2; have c3_3 : _ = some _ := mk.2.2.2.1.cell 3; have c3_f := mk.2.2.2.1.free; have c3_l := mk.2.2.2.1.lt; have c4_0 : _ = some _ := mk.2.2.2.2.1.cell 0; have c4_1 : _ = some _ := mk.2.2.2.2.1.cell 1; have c4_2 : _ = some _ := mk.2.2.2.2.1.cell 2; have c4_3 : _ = some _ := mk.2.2.2.2.1.cell 3; have c4_f := mk.2.2.2.2.1.free; have c4_l := mk.2.2.2.2.1.lt; clear mk
                have WG : Hid (Rg.wf (⟨x, a.uh, a.sl, a.sh⟩ : Rg)) := hide (by rw [← EB.out]; exact wf_brng HA.out HB.out MA.out MB.out EC.out)
                go_wp2_with (first
                  | (go_at_call 54; (with_reducible refine (b_of _ _ _ _ wc _ (by assumption)).mono ?_); rintro e w' ⟨rfl, hx'⟩; (try clear c0_0 c0_1 c1_0 c1_1 c2_0 c2_1 c2_2 c2_3 c3_0 c3_1 c3_2 c3_3 c4_0 c4_1 c4_2 c4_3 c0_f c1_f c2_f c3_f c4_f c0_l c1_l c2_l c3_l c4_l); have mk := ME.out _ hx'; have c0_0 : _ = some _ := mk.1.cell 0; have c0_1 : _ = some _ := mk.1.cell 1; have c0_f := mk.1.free; have c0_l := mk.1.lt; have c1_0 : _ = some _ := mk.2.1.cell 0; have c1_1 : _ = some _ := mk.2.1.cell 1; have c1_f := mk.2.1.free; have c1_l := mk.2.1.lt; have c2_0 : _ = some _ := mk.2.2.1.cell 0; have c2_1 : _ = some _ := mk.2.2.1.cell 1; have c2_2 : _ = some _ := mk.2.2.1.cell 2; have c2_3 : _ = some _ := mk.2.2.1.cell 3; have c2_f := mk.2.2.1.free; have c2_l := mk.2.2.1.lt; have c3_0 : _ = some _ := mk.2.2.2.1.cell 0; have c3_1 : _ = some _ := mk.2.2.2.1.cell 1; have c3_2 : _ = some _ := mk.2.2.2.1.cell 2; have c3_3 : _ = some _ := mk.2.2.2.1.cell 3; have c3_f := mk.2.2.2.1.free; have c3_l := mk.2.2.2.1.lt; have c4_0 : _ = some _ := mk.2.2.2.2.1.cell 0; have c4_1 : _ = some _ := mk.2.2.2.2.1.cell 1; have c4_2 : _ = some _ := mk.2.2.2.2.1.cell 2; have c4_3 : _ = some _ := mk.2.2.2.2.1.cell 3; have c4_f := mk.2.2.2.2.1.free; have c4_l := mk.2.2.2.2.1.lt; clear mk)
                  | (go_at_call 11; (with_reducible refine (b_nar (⟨x, a.uh, a.sl, a.sh⟩ : Rg) WG.out wc _ (by assumption)).mono ?_); rintro e w' ⟨rfl, hx'⟩; (try clear c0_0 c0_1 c1_0 c1_1 c2_0 c2_1 c2_2 c2_3 c3_0 c3_1 c3_2 c3_3 c4_0 c4_1 c4_2 c4_3 c0_f c1_f c2_f c3_f c4_f c0_l c1_l c2_l c3_l c4_l); have mk := ME.out _ hx'; have c0_0 : _ = some _ := mk.1.cell 0; have c0_1 : _ = some _ := mk.1.cell 1; have c0_f := mk.1.free; have c0_l := mk.1.lt; have c1_0 : _ = some _ := mk.2.1.cell 0; have c1_1 : _ = some _ := mk.2.1.cell 1; have c1_f := mk.2.1.free; have c1_l := mk.2.1.lt; have c2_0 : _ = some _ := mk.2.2.1.cell 0; have c2_1 : _ = some _ := mk.2.2.1.cell 1; have c2_2 : _ = some _ := mk.2.2.1.cell 2; have c2_3 : _ = some _ := mk.2.2.1.cell 3; have c2_f := mk.2.2.1.free; have c2_l := mk.2.2.1.lt; have c3_0 : _ = some _ := mk.2.2.2.1.cell 0; have c3_1 : _ = some _ := mk.2.2.2.1.cell 1; have c3_2 : _ = some _ := mk.2.2.2.1.cell 2; have c3_3 : _ = some _ := mk.2.2.2.1.cell 3; have c3_f := mk.2.2.2.1.free; have c3_l := mk.2.2.2.1.lt; have c4_0 : _ = some _ := mk.2.2.2.2.1.cell 0; have c4_1 : _ = some _ := mk.2.2.2.2.1.cell 1; have c4_2 : _ = some _ := mk.2.2.2.2.1.cell 2; have c4_3 : _ = some _ := mk.2.2.2.2.1.cell 3; have c4_f := mk.2.2.2.2.1.free; have c4_l := mk.2.2.2.2.1.lt; clear mk)
                  | fail)
                exact bodyPost_ret (v := .tuple #[.agg #[.int .u64 (bnar (⟨x, a.uh, a.sl, a.sh⟩ : Rg)).ul, .int .u64 (bnar (⟨x, a.uh, a.sl, a.sh⟩ : Rg)).uh, .int .i64 (bnar (⟨x, a.uh, a.sl, a.sh⟩ : Rg)).sl, .int .i64 (bnar (⟨x, a.uh, a.sl, a.sh⟩ : Rg)).sh], .bool (bnok (⟨x, a.uh, a.sl, a.sh⟩ : Rg))]) (by simp [results, Try.results19, go_sem, c4_0, c4_1, c4_2, c4_3, c4_l, Nat.ne_of_lt c4_l, Nat.ne_of_gt c4_l] <;> (first | exact ⟨rfl, rfl⟩ | exact ⟨rfl, rfl, rfl, rfl⟩ | exact ⟨⟨rfl, rfl, rfl, rfl⟩, rfl⟩ | exact ⟨rfl, rfl, rfl, rfl, rfl⟩ | rfl)) rfl ⟨by rw [(bgiv_can (by omega) HG.out EC.out EB.out).1, (bgiv_can (by omega) HG.out EC.out EB.out).2], by (refine hx.trans ?_; with_reducible repeat (first | assumption | exact xE.trans hx' | exact xE.trans (by assumption) | apply Ext.alloc | apply Ext.drew | (refine Ext.store1 ?_ (by omega) _)))⟩
      · as_aux_lemma =>
          obtain ⟨x, hx0⟩ : ∃ x, pab IntKind.u64.wrap (max a.ul) (b.ul + 1) b.ul false 18446744073709551615 a.ul = x := ⟨_, rfl⟩
          have KT : Hid ((!(false && (b.ul == 18446744073709551615))) = true) := hide (by simp)
          have EC : Hid (bcan 3 a b = true) := hide (by simp [bcan])
          have EB : Hid (brng 3 a b = (⟨x, a.uh, a.sl, a.sh⟩ : Rg)) := hide (by
            rw [← hx0]
            obtain ⟨⟨b0, b1⟩, ⟨b2, b3⟩, ⟨b4, b5⟩, b6, b7⟩ := HB.out
            simp [brng, pab]
          )
          have X0 := hide hx0
          clear hx0
          go_upto_block 0 with fail
          have MS : Hid (∀ w2, Ext wq w2 → Ext w ((w2.setCell ⟨b8, 0, none⟩ (.int .u64 x)).setCell ⟨b8, 1, none⟩ (.int .u64 a.uh)) ∧ Bk ((w2.setCell ⟨b8, 0, none⟩ (.int .u64 x)).setCell ⟨b8, 1, none⟩ (.int .u64 a.uh)) (b8) #[.int .u64 x, .int .u64 a.uh] 69 ∧ Bk ((w2.setCell ⟨b8, 0, none⟩ (.int .u64 x)).setCell ⟨b8, 1, none⟩ (.int .u64 a.uh)) (b9) #[.int .i64 a.sl, .int .i64 a.sh] 72 ∧ Bk ((w2.setCell ⟨b8, 0, none⟩ (.int .u64 x)).setCell ⟨b8, 1, none⟩ (.int .u64 a.uh)) (w.heap.size) #[.int .u64 a.ul, .int .u64 a.uh, .int .i64 a.sl, .int .i64 a.sh] 24 ∧ Bk ((w2.setCell ⟨b8, 0, none⟩ (.int .u64 x)).setCell ⟨b8, 1, none⟩ (.int .u64 a.uh)) (w.heap.size + 1) #[.int .u64 b.ul, .int .u64 b.uh, .int .i64 b.sl, .int .i64 b.sh] 24 ∧ Bk ((w2.setCell ⟨b8, 0, none⟩ (.int .u64 x)).setCell ⟨b8, 1, none⟩ (.int .u64 a.uh)) (w.heap.size + 1 + 1) #[.int .u64 0, .int .u64 0, .int .i64 0, .int .i64 0] 24 ∧ True) := hide (fun w2 h => by
            have mk := MC1.out _ h
            exact ⟨(Ext.store1 (Ext.store1 (xC1.trans h) (by omega) _) (by omega) _), ((mk.1.set 0 (.int .u64 x)).set 1 (.int .u64 a.uh)), ((mk.2.1.off (b8) 0 (.int .u64 x) (by omega)).off (b8) 1 (.int .u64 a.uh) (by omega)), ((mk.2.2.1.off (b8) 0 (.int .u64 x) (by omega)).off (b8) 1 (.int .u64 a.uh) (by omega)), ((mk.2.2.2.1.off (b8) 0 (.int .u64 x) (by omega)).off (b8) 1 (.int .u64 a.uh) (by omega)), ((mk.2.2.2.2.1.off (b8) 0 (.int .u64 x) (by omega)).off (b8) 1 (.int .u64 a.uh) (by omega)), trivial⟩)
          go_cut [10] (fun s10 wx => s10 = .bool true ∧ Hid (Ext w wx ∧ Bk wx (b8) #[.int .u64 x, .int .u64 a.uh] 69 ∧ Bk wx (b9) #[.int .i64 a.sl, .int .i64 a.sh] 72 ∧ Bk wx (w.heap.size) #[.int .u64 a.ul, .int .u64 a.uh, .int .i64 a.sl, .int .i64 a.sh] 24 ∧ Bk wx (w.heap.size + 1) #[.int .u64 b.ul, .int .u64 b.uh, .int .i64 b.sl, .int .i64 b.sh] 24 ∧ Bk wx (w.heap.size + 1 + 1) #[.int .u64 0, .int .u64 0, .int .i64 0, .int .i64 0] 24 ∧ True))
          case first =>
            as_aux_lemma =>
              go_wp2_with fail
              go_region_with (first
                | (go_at_call 50; (with_reducible refine (b_uns b wq _ (by first | assumption | exact hx'.drew)).mono ?_); rintro e w' ⟨rfl, hx'⟩; (try clear c0_0 c0_1 c1_0 c1_1 c2_0 c2_1 c2_2 c2_3 c3_0 c3_1 c3_2 c3_3 c4_0 c4_1 c4_2 c4_3 c0_f c1_f c2_f c3_f c4_f c0_l c1_l c2_l c3_l c4_l); have mk := MC1.out _ hx'; have c0_0 : _ = some _ := mk.1.cell 0; have c0_1 : _ = some _ := mk.1.cell 1; have c0_f := mk.1.free; have c0_l := mk.1.lt; have c1_0 : _ = some _ := mk.2.1.cell 0; have c1_1 : _ = some _ := mk.2.1.cell 1; have c1_f := mk.2.1.free; have c1_l := mk.2.1.lt; have c2_0 : _ = some _ := mk.2.2.1.cell 0; have c2_1 : _ = some _ := mk.2.2.1.cell 1; have c2_2 : _ = some _ := mk.2.2.1.cell 2; have c2_3 : _ = some _ := mk.2.2.1.cell 3; have c2_f := mk.2.2.1.free; have c2_l := mk.2.2.1.lt; have c3_0 : _ = some _ := mk.2.2.2.1.cell 0; have c3_1 : _ = some _ := mk.2.2.2.1.cell 1; have c3_2 : _ = some _ := mk.2.2.2.1.cell 2; have c3_3 : _ = some _ := mk.2.2.2.1.cell 3; have c3_f := mk.2.2.2.1.free; have c3_l := mk.2.2.2.1.lt; have c4_0 : _ = some _ := mk.2.2.2.2.1.cell 0; have c4_1 : _ = some _ := mk.2.2.2.2.1.cell 1; have c4_2 : _ = some _ := mk.2.2.2.2.1.cell 2; have c4_3 : _ = some _ := mk.2.2.2.2.1.cell 3; have c4_f := mk.2.2.2.2.1.free; have c4_l := mk.2.2.2.2.1.lt; clear mk)
                | (go_at_call 62; (with_reducible refine (b_uabovel a.ul a.uh b.ul b.uh false 18446744073709551615 x _ X0.out KT.out wq _ (by first | assumption | exact hx'.drew)).mono ?_); rintro e w' ⟨rfl, hx'⟩; (try clear c0_0 c0_1 c1_0 c1_1 c2_0 c2_1 c2_2 c2_3 c3_0 c3_1 c3_2 c3_3 c4_0 c4_1 c4_2 c4_3 c0_f c1_f c2_f c3_f c4_f c0_l c1_l c2_l c3_l c4_l); have mk := MC1.out _ hx'; have c0_0 : _ = some _ := mk.1.cell 0; have c0_1 : _ = some _ := mk.1.cell 1; have c0_f := mk.1.free; have c0_l := mk.1.lt; have c1_0 : _ = some _ := mk.2.1.cell 0; have c1_1 : _ = some _ := mk.2.1.cell 1; have c1_f := mk.2.1.free; have c1_l := mk.2.1.lt; have c2_0 : _ = some _ := mk.2.2.1.cell 0; have c2_1 : _ = some _ := mk.2.2.1.cell 1; have c2_2 : _ = some _ := mk.2.2.1.cell 2; have c2_3 : _ = some _ := mk.2.2.1.cell 3; have c2_f := mk.2.2.1.free; have c2_l := mk.2.2.1.lt; have c3_0 : _ = some _ := mk.2.2.2.1.cell 0; have c3_1 : _ = some _ := mk.2.2.2.1.cell 1; have c3_2 : _ = some _ := mk.2.2.2.1.cell 2; have c3_3 : _ = some _ := mk.2.2.2.1.cell 3; have c3_f := mk.2.2.2.1.free; have c3_l := mk.2.2.2.1.lt; have c4_0 : _ = some _ := mk.2.2.2.2.1.cell 0; have c4_1 : _ = some _ := mk.2.2.2.2.1.cell 1; have c4_2 : _ = some _ := mk.2.2.2.2.1.cell 2; have c4_3 : _ = some _ := mk.2.2.2.2.1.cell 3; have c4_f := mk.2.2.2.2.1.free; have c4_l := mk.2.2.2.2.1.lt; clear mk)
                | fail)
              all_goals
                go_wp2_with fail
                go_meet
                exact ⟨rfl, hide (MS.out _ (by first | assumption | exact hx'.drew))⟩
          case rest =>
            obtain ⟨rfl, HE⟩ := hcut
            have ME := hide (fun w2 (h : Ext wc w2) => (⟨HE.out.2.1.ext h, HE.out.2.2.1.ext h, HE.out.2.2.2.1.ext h, HE.out.2.2.2.2.1.ext h, HE.out.2.2.2.2.2.1.ext h, trivial⟩ : Bk w2 (b8) #[.int .u64 x, .int .u64 a.uh] 69 ∧ Bk w2 (b9) #[.int .i64 a.sl, .int .i64 a.sh] 72 ∧ Bk w2 (w.heap.size) #[.int .u64 a.ul, .int .u64 a.uh, .int .i64 a.sl, .int .i64 a.sh] 24 ∧ Bk w2 (w.heap.size + 1) #[.int .u64 b.ul, .int .u64 b.uh, .int .i64 b.sl, .int .i64 b.sh] 24 ∧ Bk w2 (w.heap.size + 1 + 1) #[.int .u64 0, .int .u64 0, .int .i64 0, .int .i64 0] 24 ∧ True))
            have xE : Ext w wc := HE.out.1
            (try clear c0_0 c0_1 c1_0 c1_1 c2_0 c2_1 c2_2 c2_3 c3_0 c3_1 c3_2 c3_3 c4_0 c4_1 c4_2 c4_3 c0_f c1_f c2_f c3_f c4_f c0_l c1_l c2_l c3_l c4_l)
            have hx' : Ext wc wc := Ext.refl _
            (try clear c0_0 c0_1 c1_0 c1_1 c2_0 c2_1 c2_2 c2_3 c3_0 c3_1 c3_2 c3_3 c4_0 c4_1 c4_2 c4_3 c0_f c1_f c2_f c3_f c4_f c0_l c1_l c2_l c3_l c4_l); have mk := ME.out _ hx'; have c0_0 : _ = some _ := mk.1.cell 0; have c0_1 : _ = some _ := mk.1.cell 1; have c0_f := mk.1.free; have c0_l := mk.1.lt; have c1_0 : _ = some _ := mk.2.1.cell 0; have c1_1 : _ = some _ := mk.2.1.cell 1; have c1_f := mk.2.1.free; have c1_l := mk.2.1.lt; have c2_0 : _ = some _ := mk.2.2.1.cell 0; have c2_1 : _ = some _ := mk.2.2.1.cell 1; have c2_2 : _ = some _ := mk.2.2.1.cell 2; have c2_3 : _ = some _ := mk.2.2.1.cell 3; have c2_f := mk.2.2.1.free; have c2_l := mk.2.2.1.lt; have c3_0 : _ = some _ := mk.2.2.2.1.cell 0; have c3_1 : _ = some _ := mk.2.2.2.1.cell 1; have c3_2 : _ = some _ := mk.2.2.2.1.cell 2; have c3_3 : _ = some _ := mk.2.2.2.1.cell 3; have c3_f := mk.2.2.2.1.free; have c3_l := mk.2.2.2.1.lt; have c4_0 : _ = some _ := mk.2.2.2.2.1.cell 0; have c4_1 : _ = some _ := mk.2.2.2.2.1.cell 1; have c4_2 : _ = some _ := mk.2.2.2.2.1.cell 2; have c4_3 : _ = some _ := mk.2.2.2.2.1.cell 3; have c4_f := mk.2.2.2.2.1.free; have c4_l := mk.2.2.2.2.1.lt; clear mk
            have WG : Hid (Rg.wf (⟨x, a.uh, a.sl, a.sh⟩ : Rg)) := hide (by rw [← EB.out]; exact wf_brng HA.out HB.out MA.out MB.out EC.out)
            go_wp2_with (first
              | (go_at_call 54; (with_reducible refine (b_of _ _ _ _ wc _ (by assumption)).mono ?_); rintro e w' ⟨rfl, hx'⟩; (try clear c0_0 c0_1 c1_0 c1_1 c2_0 c2_1 c2_2 c2_3 c3_0 c3_1 c3_2 c3_3 c4_0 c4_1 c4_2 c4_3 c0_f c1_f c2_f c3_f c4_f c0_l c1_l c2_l c3_l c4_l); have mk := ME.out _ hx'; have c0_0 : _ = some _ := mk.1.cell 0; have c0_1 : _ = some _ := mk.1.cell 1; have c0_f := mk.1.free; have c0_l := mk.1.lt; have c1_0 : _ = some _ := mk.2.1.cell 0; have c1_1 : _ = some _ := mk.2.1.cell 1; have c1_f := mk.2.1.free; have c1_l := mk.2.1.lt; have c2_0 : _ = some _ := mk.2.2.1.cell 0; have c2_1 : _ = some _ := mk.2.2.1.cell 1; have c2_2 : _ = some _ := mk.2.2.1.cell 2; have c2_3 : _ = some _ := mk.2.2.1.cell 3; have c2_f := mk.2.2.1.free; have c2_l := mk.2.2.1.lt; have c3_0 : _ = some _ := mk.2.2.2.1.cell 0; have c3_1 : _ = some _ := mk.2.2.2.1.cell 1; have c3_2 : _ = some _ := mk.2.2.2.1.cell 2; have c3_3 : _ = some _ := mk.2.2.2.1.cell 3; have c3_f := mk.2.2.2.1.free; have c3_l := mk.2.2.2.1.lt; have c4_0 : _ = some _ := mk.2.2.2.2.1.cell 0; have c4_1 : _ = some _ := mk.2.2.2.2.1.cell 1; have c4_2 : _ = some _ := mk.2.2.2.2.1.cell 2; have c4_3 : _ = some _ := mk.2.2.2.2.1.cell 3; have c4_f := mk.2.2.2.2.1.free; have c4_l := mk.2.2.2.2.1.lt; clear mk)
              | (go_at_call 11; (with_reducible refine (b_nar (⟨x, a.uh, a.sl, a.sh⟩ : Rg) WG.out wc _ (by assumption)).mono ?_); rintro e w' ⟨rfl, hx'⟩; (try clear c0_0 c0_1 c1_0 c1_1 c2_0 c2_1 c2_2 c2_3 c3_0 c3_1 c3_2 c3_3 c4_0 c4_1 c4_2 c4_3 c0_f c1_f c2_f c3_f c4_f c0_l c1_l c2_l c3_l c4_l); have mk := ME.out _ hx'; have c0_0 : _ = some _ := mk.1.cell 0; have c0_1 : _ = some _ := mk.1.cell 1; have c0_f := mk.1.free; have c0_l := mk.1.lt; have c1_0 : _ = some _ := mk.2.1.cell 0; have c1_1 : _ = some _ := mk.2.1.cell 1; have c1_f := mk.2.1.free; have c1_l := mk.2.1.lt; have c2_0 : _ = some _ := mk.2.2.1.cell 0; have c2_1 : _ = some _ := mk.2.2.1.cell 1; have c2_2 : _ = some _ := mk.2.2.1.cell 2; have c2_3 : _ = some _ := mk.2.2.1.cell 3; have c2_f := mk.2.2.1.free; have c2_l := mk.2.2.1.lt; have c3_0 : _ = some _ := mk.2.2.2.1.cell 0; have c3_1 : _ = some _ := mk.2.2.2.1.cell 1; have c3_2 : _ = some _ := mk.2.2.2.1.cell 2; have c3_3 : _ = some _ := mk.2.2.2.1.cell 3; have c3_f := mk.2.2.2.1.free; have c3_l := mk.2.2.2.1.lt; have c4_0 : _ = some _ := mk.2.2.2.2.1.cell 0; have c4_1 : _ = some _ := mk.2.2.2.2.1.cell 1; have c4_2 : _ = some _ := mk.2.2.2.2.1.cell 2; have c4_3 : _ = some _ := mk.2.2.2.2.1.cell 3; have c4_f := mk.2.2.2.2.1.free; have c4_l := mk.2.2.2.2.1.lt; clear mk)
              | fail)
            exact bodyPost_ret (v := .tuple #[.agg #[.int .u64 (bnar (⟨x, a.uh, a.sl, a.sh⟩ : Rg)).ul, .int .u64 (bnar (⟨x, a.uh, a.sl, a.sh⟩ : Rg)).uh, .int .i64 (bnar (⟨x, a.uh, a.sl, a.sh⟩ : Rg)).sl, .int .i64 (bnar (⟨x, a.uh, a.sl, a.sh⟩ : Rg)).sh], .bool (bnok (⟨x, a.uh, a.sl, a.sh⟩ : Rg))]) (by simp [results, Try.results19, go_sem, c4_0, c4_1, c4_2, c4_3, c4_l, Nat.ne_of_lt c4_l, Nat.ne_of_gt c4_l] <;> (first | exact ⟨rfl, rfl⟩ | exact ⟨rfl, rfl, rfl, rfl⟩ | exact ⟨⟨rfl, rfl, rfl, rfl⟩, rfl⟩ | exact ⟨rfl, rfl, rfl, rfl, rfl⟩ | rfl)) rfl ⟨by rw [(bgiv_can (by omega) HG.out EC.out EB.out).1, (bgiv_can (by omega) HG.out EC.out EB.out).2], by (refine hx.trans ?_; with_reducible repeat (first | assumption | exact xE.trans hx' | exact xE.trans (by assumption) | apply Ext.alloc | apply Ext.drew | (refine Ext.store1 ?_ (by omega) _)))⟩
end Go.Proofs.Ytcngfmhhaleoaaa
