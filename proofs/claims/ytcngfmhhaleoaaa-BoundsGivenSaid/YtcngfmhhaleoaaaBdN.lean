/- The walk of Narrow of package bounds. -/
import Derived.Test.YtcngfmhhaleoaaaBdB
import Derived.Deep.RegionHeld3
import Derived.Deep.RegionWith
import Derived.Deep.DeepCutAuto
import Derived.Deep.CutBlock
set_option linter.unusedVariables false
set_option linter.unusedSimpArgs false
namespace Go.Proofs.Ytcngfmhhaleoaaa
open Go.RowKit Go.ChangeShapes Go.WideShapes

theorem bnok_iff (a : Rg) : bnok a = true ↔ ∀ j, j < 4 → bmay (bnst j a) = true := by
  unfold bnok
  simp only [Bool.and_eq_true]
  constructor
  · rintro ⟨h0, h1, h2, h3⟩ j hj
    rcases (show j = 0 ∨ j = 1 ∨ j = 2 ∨ j = 3 by omega) with rfl | rfl | rfl | rfl
    · exact h0
    · exact h1
    · exact h2
    · exact h3
  · intro h
    exact ⟨h 0 (by omega), h 1 (by omega), h 2 (by omega), h 3 (by omega)⟩
theorem wf_bnst {a : Rg} (h : a.wf) (k : Nat) : (bnst k a).wf := by
  unfold bnst
  split
  · exact h
  split
  · exact wf_bsgn h
  split
  · exact wf_buns (wf_bsgn h)
  · exact wf_bsgn (wf_buns (wf_bsgn h))
theorem hib_shr {x y : Int} (hx : 0 ≤ x ∧ x ≤ 18446744073709551615) (hy : 0 ≤ y ∧ y ≤ 18446744073709551615) : (x / 9223372036854775808 == y / 9223372036854775808) = decide (hib x = hib y) := by
  rw [Bool.eq_iff_iff, beq_iff_eq, decide_eq_true_eq, hib_eq]
  omega
theorem nst_uns1 {a r : Rg} (h : bnst 1 a = r) (hb : (decide (r.sl < 0) == decide (r.sh < 0)) = true) : bnst 2 a = ⟨max r.ul (IntKind.u64.wrap r.sl), min r.uh (IntKind.u64.wrap r.sh), r.sl, r.sh⟩ := by
  have h1 : bsgn a = r := h
  show buns (bsgn a) = _
  rw [h1]
  exact if_pos (eq_of_beq hb)
theorem nst_uns0 {a r : Rg} (h : bnst 1 a = r) (hb : (decide (r.sl < 0) == decide (r.sh < 0)) = false) : bnst 2 a = ⟨r.ul, r.uh, r.sl, r.sh⟩ := by
  have h1 : bsgn a = r := h
  show buns (bsgn a) = _
  rw [h1]
  exact if_neg (fun hh => by rw [hh] at hb; simp at hb)
theorem sgn1 {r : Rg} (wr : r.wf) (hb : (r.ul / 9223372036854775808 == r.uh / 9223372036854775808) = true) : bsgn r = ⟨r.ul, r.uh, max r.sl (s64 r.ul), min r.sh (s64 r.uh)⟩ := by
  rw [hib_shr wr.1 wr.2.1] at hb
  exact if_pos (of_decide_eq_true hb)
theorem sgn0 {r : Rg} (wr : r.wf) (hb : (r.ul / 9223372036854775808 == r.uh / 9223372036854775808) = false) : bsgn r = ⟨r.ul, r.uh, r.sl, r.sh⟩ := by
  rw [hib_shr wr.1 wr.2.1] at hb
  exact if_neg (of_decide_eq_false hb)
theorem nst_s0 {a r x : Rg} (h : bnst 0 a = r) (hb : bsgn r = x) : bnst 1 a = x := by
  have h1 : a = r := h
  subst h1
  exact hb
theorem nst_s2 {a r x : Rg} (h : bnst 2 a = r) (hb : bsgn r = x) : bnst 3 a = x := by
  have h1 : buns (bsgn a) = r := h
  show bsgn (buns (bsgn a)) = _
  rw [h1]
  exact hb

set_option maxRecDepth 100000 in
set_option maxHeartbeats 16000000 in
theorem b_nar (a : Rg) (ha : a.wf) (W w : World) (hx : Ext W w) :
    Calls Try.prog 11 #[.agg #[.int .u64 a.ul, .int .u64 a.uh, .int .i64 a.sl, .int .i64 a.sh]] w fun e w' => e = .returned (.tuple #[.agg #[.int .u64 (bnar a).ul, .int .u64 (bnar a).uh, .int .i64 (bnar a).sl, .int .i64 (bnar a).sh], .bool (bnok a)]) ∧ Ext W w' := by
  obtain ⟨W3, hW3⟩ : ∃ W3, W3 = ((w.alloc (.cells #[.int .u64 a.ul, .int .u64 a.uh, .int .i64 a.sl, .int .i64 a.sh] 24)).alloc (.cells #[.int .u64 0, .int .u64 0, .int .i64 0, .int .i64 0] 24)) := ⟨_, rfl⟩
  have x3 : Ext w W3 := by rw [hW3]; exact (((Ext.refl w).alloc _).alloc _)
  have MK := hide (fun w' (h : Ext W3 w') => bk2 (hW3 ▸ h))
  have hx' : Ext W3 W3 := Ext.refl _
  go_enter Try.func11, Try.ntmps11
  go_wp2_with fail
  rw [← hW3]
  clear hW3
  (try clear c0_0 c0_1 c0_2 c0_3 c1_0 c1_1 c1_2 c1_3 c0_f c1_f c0_l c1_l); have mk := MK.out _ hx'; have c0_0 : _ = some _ := mk.1.cell 0; have c0_1 : _ = some _ := mk.1.cell 1; have c0_2 : _ = some _ := mk.1.cell 2; have c0_3 : _ = some _ := mk.1.cell 3; have c0_f := mk.1.free; have c0_l := mk.1.lt; have c1_0 : _ = some _ := mk.2.1.cell 0; have c1_1 : _ = some _ := mk.2.1.cell 1; have c1_2 : _ = some _ := mk.2.1.cell 2; have c1_3 : _ = some _ := mk.2.1.cell 3; have c1_f := mk.2.1.free; have c1_l := mk.2.1.lt; clear mk
  go_loopw [4] (fun i wr => ∃ k : Nat, i = .int .i64 k ∧ k ≤ 3 ∧ Hid (Ext w wr ∧ (Bk wr w.heap.size #[.int .u64 (bnst k a).ul, .int .u64 (bnst k a).uh, .int .i64 (bnst k a).sl, .int .i64 (bnst k a).sh] 24 ∧ Bk wr (w.heap.size + 1) #[.int .u64 0, .int .u64 0, .int .i64 0, .int .i64 0] 24) ∧ ∀ j, j < k → bmay (bnst j a) = true)) (fun i _ => 4 - (intOf i).toNat)
  case atStart => exact ⟨0, rfl, by omega, hide ⟨x3, ⟨(MK.out _ hx').1, (MK.out _ hx').2.1⟩, fun j hj => absurd hj (by omega)⟩⟩
  case round =>
    (try clear c0_0 c0_1 c0_2 c0_3 c1_0 c1_1 c1_2 c1_3 c0_f c1_f c0_l c1_l)
    clear hx' MK x3
    obtain ⟨k, rfl, hk, H⟩ := hrel
    obtain ⟨r, hr⟩ : ∃ r, bnst k a = r := ⟨_, rfl⟩
    rw [hr] at H
    have wr0 : r.wf := by rw [← hr]; exact wf_bnst ha k
    have MR := hide (fun w2 (h : Ext wr w2) => (⟨H.out.2.1.1.ext h, H.out.2.1.2.ext h, trivial⟩ : Bk w2 w.heap.size #[.int .u64 r.ul, .int .u64 r.uh, .int .i64 r.sl, .int .i64 r.sh] 24 ∧ Bk w2 (w.heap.size + 1) #[.int .u64 0, .int .u64 0, .int .i64 0, .int .i64 0] 24 ∧ True))
    have xr : Ext w wr := H.out.1
    have HP := hide H.out.2.2
    clear H
    have hx' : Ext wr wr := Ext.refl _
    cases ht : bmay r
    · have e : bnok a = false := by
        cases h : bnok a
        · rfl
        · have := (bnok_iff a).1 h k (by omega)
          rw [hr, ht] at this
          exact absurd this (by simp)
      have e2 : bnar a = ball := by unfold bnar; rw [e]; simp
      have E1 := hide e
      have E2 := hide e2
      have HT := hide ht
      clear ht e e2 hr
      as_aux_lemma =>
        (try clear c0_0 c0_1 c0_2 c0_3 c1_0 c1_1 c1_2 c1_3 c0_f c1_f c0_l c1_l); have mk := MR.out _ hx'; have c0_0 : _ = some _ := mk.1.cell 0; have c0_1 : _ = some _ := mk.1.cell 1; have c0_2 : _ = some _ := mk.1.cell 2; have c0_3 : _ = some _ := mk.1.cell 3; have c0_f := mk.1.free; have c0_l := mk.1.lt; have c1_0 : _ = some _ := mk.2.1.cell 0; have c1_1 : _ = some _ := mk.2.1.cell 1; have c1_2 : _ = some _ := mk.2.1.cell 2; have c1_3 : _ = some _ := mk.2.1.cell 3; have c1_f := mk.2.1.free; have c1_l := mk.2.1.lt; clear mk
        go_wp2_with (first
          | (go_at_call 16; (with_reducible refine (b_may r _ HT.out wr _ (by assumption)).mono ?_); rintro e w' ⟨rfl, hx'⟩; (try clear c0_0 c0_1 c0_2 c0_3 c1_0 c1_1 c1_2 c1_3 c0_f c1_f c0_l c1_l); have mk := MR.out _ hx'; have c0_0 : _ = some _ := mk.1.cell 0; have c0_1 : _ = some _ := mk.1.cell 1; have c0_2 : _ = some _ := mk.1.cell 2; have c0_3 : _ = some _ := mk.1.cell 3; have c0_f := mk.1.free; have c0_l := mk.1.lt; have c1_0 : _ = some _ := mk.2.1.cell 0; have c1_1 : _ = some _ := mk.2.1.cell 1; have c1_2 : _ = some _ := mk.2.1.cell 2; have c1_3 : _ = some _ := mk.2.1.cell 3; have c1_f := mk.2.1.free; have c1_l := mk.2.1.lt; clear mk)
          | (go_at_call 13; (with_reducible refine (b_all wr _ (by assumption)).mono ?_); rintro e w' ⟨rfl, hx'⟩; (try clear c0_0 c0_1 c0_2 c0_3 c1_0 c1_1 c1_2 c1_3 c0_f c1_f c0_l c1_l); have mk := MR.out _ hx'; have c0_0 : _ = some _ := mk.1.cell 0; have c0_1 : _ = some _ := mk.1.cell 1; have c0_2 : _ = some _ := mk.1.cell 2; have c0_3 : _ = some _ := mk.1.cell 3; have c0_f := mk.1.free; have c0_l := mk.1.lt; have c1_0 : _ = some _ := mk.2.1.cell 0; have c1_1 : _ = some _ := mk.2.1.cell 1; have c1_2 : _ = some _ := mk.2.1.cell 2; have c1_3 : _ = some _ := mk.2.1.cell 3; have c1_f := mk.2.1.free; have c1_l := mk.2.1.lt; clear mk)
          | fail)
        exact bodyPost_ret (v := .tuple #[.agg #[.int .u64 ball.ul, .int .u64 ball.uh, .int .i64 ball.sl, .int .i64 ball.sh], .bool false]) (by simp [results, Try.results11, go_sem, c1_0, c1_1, c1_2, c1_3, c1_l, Nat.ne_of_lt c1_l, Nat.ne_of_gt c1_l] <;> (first | exact ⟨rfl, rfl⟩ | exact ⟨rfl, rfl, rfl, rfl⟩ | exact ⟨⟨rfl, rfl, rfl, rfl⟩, rfl⟩ | exact ⟨rfl, rfl, rfl, rfl, rfl⟩ | rfl)) rfl ⟨by rw [E1.out, E2.out], by (refine hx.trans ?_; with_reducible repeat (first | assumption | exact xr.trans hx' | exact xr.trans (by assumption) | apply Ext.alloc | apply Ext.drew | (refine Ext.store1 ?_ (by omega) _)))⟩
    · have HN : Hid (∀ j, j < k + 1 → bmay (bnst j a) = true) := hide (fun j hj => by
        rcases (show j < k ∨ j = k by omega) with h | rfl
        · exact HP.out j h
        · rw [hr, ht])
      have HT := hide ht
      have HR := hide hr
      clear ht hr HP
      (try clear c0_0 c0_1 c0_2 c0_3 c1_0 c1_1 c1_2 c1_3 c0_f c1_f c0_l c1_l); have mk := MR.out _ hx'; have c0_0 : _ = some _ := mk.1.cell 0; have c0_1 : _ = some _ := mk.1.cell 1; have c0_2 : _ = some _ := mk.1.cell 2; have c0_3 : _ = some _ := mk.1.cell 3; have c0_f := mk.1.free; have c0_l := mk.1.lt; have c1_0 : _ = some _ := mk.2.1.cell 0; have c1_1 : _ = some _ := mk.2.1.cell 1; have c1_2 : _ = some _ := mk.2.1.cell 2; have c1_3 : _ = some _ := mk.2.1.cell 3; have c1_f := mk.2.1.free; have c1_l := mk.2.1.lt; clear mk
      go_upto_region 4 with (first
        | (go_at_call 16; (with_reducible refine (b_may r _ HT.out wr _ (by assumption)).mono ?_); rintro e w' ⟨rfl, hx'⟩; (try clear c0_0 c0_1 c0_2 c0_3 c1_0 c1_1 c1_2 c1_3 c0_f c1_f c0_l c1_l); have mk := MR.out _ hx'; have c0_0 : _ = some _ := mk.1.cell 0; have c0_1 : _ = some _ := mk.1.cell 1; have c0_2 : _ = some _ := mk.1.cell 2; have c0_3 : _ = some _ := mk.1.cell 3; have c0_f := mk.1.free; have c0_l := mk.1.lt; have c1_0 : _ = some _ := mk.2.1.cell 0; have c1_1 : _ = some _ := mk.2.1.cell 1; have c1_2 : _ = some _ := mk.2.1.cell 2; have c1_3 : _ = some _ := mk.2.1.cell 3; have c1_f := mk.2.1.free; have c1_l := mk.2.1.lt; clear mk)
        | fail)
      go_upto_region 4 with fail
      go_cut [5, 6] (fun s5 s6 wx => ∃ b8 b9, s5 = .pointer (some ⟨b8, 0, none⟩) ∧ s6 = .pointer (some ⟨b9, 0, none⟩) ∧ Hid ((Ext wr wx ∧ Bk wx b8 #[.int .u64 r.ul, .int .u64 r.uh] 69 ∧ Bk wx b9 #[.int .i64 r.sl, .int .i64 r.sh] 72) ∧ wr.heap.size ≤ b8 ∧ wr.heap.size ≤ b9 ∧ b8 ≠ b9))
      case first =>
        as_aux_lemma =>
          have SK : Hid (∀ w', Ext wr w' → Ext wr w' ∧ w'.cell? ⟨w.heap.size, 0, none⟩ = some (.int .u64 r.ul) ∧ w'.cell? ⟨w.heap.size, 1, none⟩ = some (.int .u64 r.uh) ∧ w'.cell? ⟨w.heap.size, 2, none⟩ = some (.int .i64 r.sl) ∧ w'.cell? ⟨w.heap.size, 3, none⟩ = some (.int .i64 r.sh) ∧ w'.cell? ⟨w.heap.size + 1, 0, none⟩ = some (.int .u64 0) ∧ w'.cell? ⟨w.heap.size + 1, 1, none⟩ = some (.int .u64 0) ∧ w'.cell? ⟨w.heap.size + 1, 2, none⟩ = some (.int .i64 0) ∧ w'.cell? ⟨w.heap.size + 1, 3, none⟩ = some (.int .i64 0)) := hide (fun w' h => ⟨h, (MR.out _ h).1.cell 0, (MR.out _ h).1.cell 1, (MR.out _ h).1.cell 2, (MR.out _ h).1.cell 3, (MR.out _ h).2.1.cell 0, (MR.out _ h).2.1.cell 1, (MR.out _ h).2.1.cell 2, (MR.out _ h).2.1.cell 3⟩)
          have hxd := hx'.drew
          have hxd0 := hx'
          (try clear c0_0 c0_1 c0_2 c0_3 c1_0 c1_1 c1_2 c1_3 c0_f c1_f c0_l c1_l)
          go_region_held3 (fun w' => Ext wr w' ∧ w'.cell? ⟨w.heap.size, 0, none⟩ = some (.int .u64 r.ul) ∧ w'.cell? ⟨w.heap.size, 1, none⟩ = some (.int .u64 r.uh) ∧ w'.cell? ⟨w.heap.size, 2, none⟩ = some (.int .i64 r.sl) ∧ w'.cell? ⟨w.heap.size, 3, none⟩ = some (.int .i64 r.sh) ∧ w'.cell? ⟨w.heap.size + 1, 0, none⟩ = some (.int .u64 0) ∧ w'.cell? ⟨w.heap.size + 1, 1, none⟩ = some (.int .u64 0) ∧ w'.cell? ⟨w.heap.size + 1, 2, none⟩ = some (.int .i64 0) ∧ w'.cell? ⟨w.heap.size + 1, 3, none⟩ = some (.int .i64 0))
            ((refine SK.out _ ?_; repeat (with_reducible first | assumption | exact hxd1 | exact hxd2 | apply Ext.alloc | apply Ext.drew | (refine Ext.store1 ?_ ?_ _; rotate_left 1; (have := hxd0.size; (try have := hxd1.size); (try have := hxd2.size); first | (simp; done) | (simp; omega) | omega)))))
            (first
            | (go_at_call 50; have hq := And.left ‹Ext wr _ ∧ _›; (with_reducible refine (b_uns r _ _ (Ext.refl _)).mono ?_); rintro e wa ⟨rfl, hy⟩; have hyo := hy; (try (with_reducible replace hy := Ext.undrew hy)); have hxd1 : Ext wr wa := hq.trans hyo; clear hq; (try (have p := P1.out.ext (by with_reducible first | exact hy | exact ((Ext.refl _).alloc _).trans hy | exact (((Ext.refl _).alloc _).alloc _).trans hy); have ne1 := Nat.ne_of_lt p1l; have nf1 := Nat.ne_of_gt p1l; clear p10 p11 p1f P1; have P1 := hide p; have p1l := p.lt; have p10 : _ = some _ := p.cell 0; have p11 : _ = some _ := p.cell 1; have p1f := p.free; clear p)); (try (have p := P2.out.ext (by with_reducible first | exact hy | exact ((Ext.refl _).alloc _).trans hy | exact (((Ext.refl _).alloc _).alloc _).trans hy); have ne2 := Nat.ne_of_lt p2l; have nf2 := Nat.ne_of_gt p2l; clear p20 p21 p2f P2; have P2 := hide p; have p2l := p.lt; have p20 : _ = some _ := p.cell 0; have p21 : _ = some _ := p.cell 1; have p2f := p.free; clear p)); (first | (with_reducible have pp := bk2p hy; have p := pp.2; have P2 := hide p; have p2l := p.lt; have p20 : _ = some _ := p.cell 0; have p21 : _ = some _ := p.cell 1; have p2f := p.free; clear p; have p := pp.1; have P1 := hide p; have p1l := p.lt; have p10 : _ = some _ := p.cell 0; have p11 : _ = some _ := p.cell 1; have p1f := p.free; clear p; clear pp) | (with_reducible have p := (bk1 hy).1; first | (have _h := P1.out; clear _h; have P2 := hide p; have p2l := p.lt; have p20 : _ = some _ := p.cell 0; have p21 : _ = some _ := p.cell 1; have p2f := p.free; clear p) | (have P1 := hide p; have p1l := p.lt; have p10 : _ = some _ := p.cell 0; have p11 : _ = some _ := p.cell 1; have p1f := p.free; clear p)) | skip); clear hy hyo)
            | (go_at_call 51; have hq := And.left ‹Ext wr _ ∧ _›; (with_reducible refine (b_sig r _ _ (Ext.refl _)).mono ?_); rintro e wb ⟨rfl, hy⟩; have hyo := hy; (try (with_reducible replace hy := Ext.undrew hy)); have hxd2 : Ext wr wb := hq.trans hyo; clear hq; (try (have p := P1.out.ext (by with_reducible first | exact hy | exact ((Ext.refl _).alloc _).trans hy | exact (((Ext.refl _).alloc _).alloc _).trans hy); have ne1 := Nat.ne_of_lt p1l; have nf1 := Nat.ne_of_gt p1l; clear p10 p11 p1f P1; have P1 := hide p; have p1l := p.lt; have p10 : _ = some _ := p.cell 0; have p11 : _ = some _ := p.cell 1; have p1f := p.free; clear p)); (try (have p := P2.out.ext (by with_reducible first | exact hy | exact ((Ext.refl _).alloc _).trans hy | exact (((Ext.refl _).alloc _).alloc _).trans hy); have ne2 := Nat.ne_of_lt p2l; have nf2 := Nat.ne_of_gt p2l; clear p20 p21 p2f P2; have P2 := hide p; have p2l := p.lt; have p20 : _ = some _ := p.cell 0; have p21 : _ = some _ := p.cell 1; have p2f := p.free; clear p)); (first | (with_reducible have pp := bk2p hy; have p := pp.2; have P2 := hide p; have p2l := p.lt; have p20 : _ = some _ := p.cell 0; have p21 : _ = some _ := p.cell 1; have p2f := p.free; clear p; have p := pp.1; have P1 := hide p; have p1l := p.lt; have p10 : _ = some _ := p.cell 0; have p11 : _ = some _ := p.cell 1; have p1f := p.free; clear p; clear pp) | (with_reducible have p := (bk1 hy).1; first | (have _h := P1.out; clear _h; have P2 := hide p; have p2l := p.lt; have p20 : _ = some _ := p.cell 0; have p21 : _ = some _ := p.cell 1; have p2f := p.free; clear p) | (have P1 := hide p; have p1l := p.lt; have p10 : _ = some _ := p.cell 0; have p11 : _ = some _ := p.cell 1; have p1f := p.free; clear p)) | skip); clear hy hyo))
          all_goals
            go_wp2_with fail
            go_meet
            have s0 := hxd0.size
            have s1 := hxd1.size
            have s2 := hxd2.size
            refine ⟨_, _, rfl, rfl, hide ⟨⟨?_, ?_, ?_⟩, ?_, ?_, ?_⟩⟩
            · with_reducible first
              | exact (hxd2.alloc _).alloc _
              | exact (Ext.store2 hxd2 (by omega) _ _).alloc _
              | exact Ext.store2 (Ext.store2 hxd2 (by omega) _ _) (by omega) _ _
            all_goals with_reducible first
              | exact (bk2p (Ext.refl _)).1
              | exact (bk2p (Ext.refl _)).2
              | exact Bk.new2s
              | exact (Bk.put2 P1.out _ _).ext ((Ext.refl _).alloc _)
              | exact (Bk.put2 P2.out _ _).ext ((Ext.refl _).alloc _)
              | exact Bk.put2 (Bk.off2 P1.out _ _ _ (by omega)) _ _
              | exact Bk.off2 (Bk.put2 P1.out _ _) _ _ _ (by omega)
              | exact Bk.put2 (Bk.off2 P2.out _ _ _ (by omega)) _ _
              | exact Bk.off2 (Bk.put2 P2.out _ _) _ _ _ (by omega)
              | omega
      case rest =>
        obtain ⟨b8, b9, rfl, rfl, HC⟩ := hcut
        have MC1 := hide (fun w2 (h : Ext wc w2) => (⟨HC.out.1.2.1.ext h, HC.out.1.2.2.ext h, MR.out w2 (HC.out.1.1.trans h)⟩ : Bk w2 (b8) #[.int .u64 r.ul, .int .u64 r.uh] 69 ∧ Bk w2 (b9) #[.int .i64 r.sl, .int .i64 r.sh] 72 ∧ _))
        have xC1 : Ext w wc := xr.trans HC.out.1.1
        have lb8 : w.heap.size ≤ b8 := Nat.le_trans xr.size HC.out.2.1
        have lb9 : w.heap.size ≤ b9 := Nat.le_trans xr.size HC.out.2.2.1
        have n89 := HC.out.2.2.2
        have nb8_0 : b8 ≠ w.heap.size := by
          have h1 := (MR.out _ (Ext.refl _)).1.lt
          have h2 := HC.out.2.1
          omega
        have nb9_0 : b9 ≠ w.heap.size := by
          have h1 := (MR.out _ (Ext.refl _)).1.lt
          have h2 := HC.out.2.2.1
          omega
        have nb8_1 : b8 ≠ w.heap.size + 1 := by
          have h1 := (MR.out _ (Ext.refl _)).2.1.lt
          have h2 := HC.out.2.1
          omega
        have nb9_1 : b9 ≠ w.heap.size + 1 := by
          have h1 := (MR.out _ (Ext.refl _)).2.1.lt
          have h2 := HC.out.2.2.1
          omega
        (try clear c0_0 c0_1 c0_2 c0_3 c1_0 c1_1 c1_2 c1_3 c0_f c1_f c0_l c1_l)
        try clear hx'
        have hx' : Ext wc wc := Ext.refl _
        (try clear c0_0 c0_1 c1_0 c1_1 c2_0 c2_1 c2_2 c2_3 c3_0 c3_1 c3_2 c3_3 c0_f c1_f c2_f c3_f c0_l c1_l c2_l c3_l); have mk := MC1.out _ hx'; have c0_0 : _ = some _ := mk.1.cell 0; have c0_1 : _ = some _ := mk.1.cell 1; have c0_f := mk.1.free; have c0_l := mk.1.lt; have c1_0 : _ = some _ := mk.2.1.cell 0; have c1_1 : _ = some _ := mk.2.1.cell 1; have c1_f := mk.2.1.free; have c1_l := mk.2.1.lt; have c2_0 : _ = some _ := mk.2.2.1.cell 0; have c2_1 : _ = some _ := mk.2.2.1.cell 1; have c2_2 : _ = some _ := mk.2.2.1.cell 2; have c2_3 : _ = some _ := mk.2.2.1.cell 3; have c2_f := mk.2.2.1.free; have c2_l := mk.2.2.1.lt; have c3_0 : _ = some _ := mk.2.2.2.1.cell 0; have c3_1 : _ = some _ := mk.2.2.2.1.cell 1; have c3_2 : _ = some _ := mk.2.2.2.1.cell 2; have c3_3 : _ = some _ := mk.2.2.2.1.cell 3; have c3_f := mk.2.2.2.1.free; have c3_l := mk.2.2.2.1.lt; clear mk
        rcases (show k = 0 ∨ k = 1 ∨ k = 2 ∨ k = 3 by omega) with rfl | rfl | rfl | rfl
        · as_aux_lemma =>
            have hb : decide (hib r.ul = hib r.uh) = true ∨ decide (hib r.ul = hib r.uh) = false := by cases decide (hib r.ul = hib r.uh) <;> simp
            rw [← hib_shr wr0.1 wr0.2.1] at hb
            rcases hb with hb | hb
            · as_aux_lemma =>
                have e : bnst 1 a = (⟨r.ul, r.uh, (max r.sl (s64 r.ul)), (min r.sh (s64 r.uh))⟩ : Rg) := nst_s0 HR.out (sgn1 wr0 hb)
                have HE := hide e
                clear e
                go_wp2_with (first
                  | (go_at_call 53; (with_reducible refine (b_imeet _ _ _ _ wc _ (by assumption)).mono ?_); rintro e w' ⟨rfl, hx'⟩; (try clear c0_0 c0_1 c1_0 c1_1 c2_0 c2_1 c2_2 c2_3 c3_0 c3_1 c3_2 c3_3 c0_f c1_f c2_f c3_f c0_l c1_l c2_l c3_l); have mk := MC1.out _ hx'; have c0_0 : _ = some _ := mk.1.cell 0; have c0_1 : _ = some _ := mk.1.cell 1; have c0_f := mk.1.free; have c0_l := mk.1.lt; have c1_0 : _ = some _ := mk.2.1.cell 0; have c1_1 : _ = some _ := mk.2.1.cell 1; have c1_f := mk.2.1.free; have c1_l := mk.2.1.lt; have c2_0 : _ = some _ := mk.2.2.1.cell 0; have c2_1 : _ = some _ := mk.2.2.1.cell 1; have c2_2 : _ = some _ := mk.2.2.1.cell 2; have c2_3 : _ = some _ := mk.2.2.1.cell 3; have c2_f := mk.2.2.1.free; have c2_l := mk.2.2.1.lt; have c3_0 : _ = some _ := mk.2.2.2.1.cell 0; have c3_1 : _ = some _ := mk.2.2.2.1.cell 1; have c3_2 : _ = some _ := mk.2.2.2.1.cell 2; have c3_3 : _ = some _ := mk.2.2.2.1.cell 3; have c3_f := mk.2.2.2.1.free; have c3_l := mk.2.2.2.1.lt; clear mk)
                  | fail)
                have MS1 : Hid (∀ w2, Ext wc w2 → Ext w ((w2.setCell ⟨b9, 0, none⟩ (.int .i64 (max r.sl (s64 r.ul)))).setCell ⟨b9, 1, none⟩ (.int .i64 (min r.sh (s64 r.uh)))) ∧ Bk ((w2.setCell ⟨b9, 0, none⟩ (.int .i64 (max r.sl (s64 r.ul)))).setCell ⟨b9, 1, none⟩ (.int .i64 (min r.sh (s64 r.uh)))) (b8) #[.int .u64 r.ul, .int .u64 r.uh] 69 ∧ Bk ((w2.setCell ⟨b9, 0, none⟩ (.int .i64 (max r.sl (s64 r.ul)))).setCell ⟨b9, 1, none⟩ (.int .i64 (min r.sh (s64 r.uh)))) (b9) #[.int .i64 (max r.sl (s64 r.ul)), .int .i64 (min r.sh (s64 r.uh))] 72 ∧ Bk ((w2.setCell ⟨b9, 0, none⟩ (.int .i64 (max r.sl (s64 r.ul)))).setCell ⟨b9, 1, none⟩ (.int .i64 (min r.sh (s64 r.uh)))) (w.heap.size) #[.int .u64 r.ul, .int .u64 r.uh, .int .i64 r.sl, .int .i64 r.sh] 24 ∧ Bk ((w2.setCell ⟨b9, 0, none⟩ (.int .i64 (max r.sl (s64 r.ul)))).setCell ⟨b9, 1, none⟩ (.int .i64 (min r.sh (s64 r.uh)))) (w.heap.size + 1) #[.int .u64 0, .int .u64 0, .int .i64 0, .int .i64 0] 24 ∧ True) := hide (fun w2 h => by
                  have mk := MC1.out _ h
                  exact ⟨(Ext.store1 (Ext.store1 (xC1.trans h) (by omega) _) (by omega) _), ((mk.1.off (b9) 0 (.int .i64 (max r.sl (s64 r.ul))) (by omega)).off (b9) 1 (.int .i64 (min r.sh (s64 r.uh))) (by omega)), ((mk.2.1.set 0 (.int .i64 (max r.sl (s64 r.ul)))).set 1 (.int .i64 (min r.sh (s64 r.uh)))), ((mk.2.2.1.off (b9) 0 (.int .i64 (max r.sl (s64 r.ul))) (by omega)).off (b9) 1 (.int .i64 (min r.sh (s64 r.uh))) (by omega)), ((mk.2.2.2.1.off (b9) 0 (.int .i64 (max r.sl (s64 r.ul))) (by omega)).off (b9) 1 (.int .i64 (min r.sh (s64 r.uh))) (by omega)), trivial⟩)
                obtain ⟨V1, hV1⟩ : ∃ V1, V1 = ((w'.setCell ⟨b9, 0, none⟩ (.int .i64 (max r.sl (s64 r.ul)))).setCell ⟨b9, 1, none⟩ (.int .i64 (min r.sh (s64 r.uh)))) := ⟨_, rfl⟩
                rw [← hV1]
                have ms := MS1.out _ hx'
                rw [← hV1] at ms
                have xV1 : Ext w V1 := ms.1
                have ms2 := hide ms.2
                have MV1 := hide (fun w2 (h : Ext V1 w2) => (⟨ms2.out.1.ext h, ms2.out.2.1.ext h, ms2.out.2.2.1.ext h, ms2.out.2.2.2.1.ext h, trivial⟩ : Bk w2 (b8) #[.int .u64 r.ul, .int .u64 r.uh] 69 ∧ Bk w2 (b9) #[.int .i64 (max r.sl (s64 r.ul)), .int .i64 (min r.sh (s64 r.uh))] 72 ∧ Bk w2 (w.heap.size) #[.int .u64 r.ul, .int .u64 r.uh, .int .i64 r.sl, .int .i64 r.sh] 24 ∧ Bk w2 (w.heap.size + 1) #[.int .u64 0, .int .u64 0, .int .i64 0, .int .i64 0] 24 ∧ True))
                clear hV1 ms MS1 hx'
                (try clear c0_0 c0_1 c1_0 c1_1 c2_0 c2_1 c2_2 c2_3 c3_0 c3_1 c3_2 c3_3 c0_f c1_f c2_f c3_f c0_l c1_l c2_l c3_l)
                have hx' : Ext V1 V1 := Ext.refl _
                (try clear c0_0 c0_1 c1_0 c1_1 c2_0 c2_1 c2_2 c2_3 c3_0 c3_1 c3_2 c3_3 c0_f c1_f c2_f c3_f c0_l c1_l c2_l c3_l); have mk := MV1.out _ hx'; have c0_0 : _ = some _ := mk.1.cell 0; have c0_1 : _ = some _ := mk.1.cell 1; have c0_f := mk.1.free; have c0_l := mk.1.lt; have c1_0 : _ = some _ := mk.2.1.cell 0; have c1_1 : _ = some _ := mk.2.1.cell 1; have c1_f := mk.2.1.free; have c1_l := mk.2.1.lt; have c2_0 : _ = some _ := mk.2.2.1.cell 0; have c2_1 : _ = some _ := mk.2.2.1.cell 1; have c2_2 : _ = some _ := mk.2.2.1.cell 2; have c2_3 : _ = some _ := mk.2.2.1.cell 3; have c2_f := mk.2.2.1.free; have c2_l := mk.2.2.1.lt; have c3_0 : _ = some _ := mk.2.2.2.1.cell 0; have c3_1 : _ = some _ := mk.2.2.2.1.cell 1; have c3_2 : _ = some _ := mk.2.2.2.1.cell 2; have c3_3 : _ = some _ := mk.2.2.2.1.cell 3; have c3_f := mk.2.2.2.1.free; have c3_l := mk.2.2.2.1.lt; clear mk
                go_wp2_with (first
                  | (go_at_call 54; (with_reducible refine (b_of _ _ _ _ V1 _ (by assumption)).mono ?_); rintro e w' ⟨rfl, hx'⟩; (try clear c0_0 c0_1 c1_0 c1_1 c2_0 c2_1 c2_2 c2_3 c3_0 c3_1 c3_2 c3_3 c0_f c1_f c2_f c3_f c0_l c1_l c2_l c3_l); have mk := MV1.out _ hx'; have c0_0 : _ = some _ := mk.1.cell 0; have c0_1 : _ = some _ := mk.1.cell 1; have c0_f := mk.1.free; have c0_l := mk.1.lt; have c1_0 : _ = some _ := mk.2.1.cell 0; have c1_1 : _ = some _ := mk.2.1.cell 1; have c1_f := mk.2.1.free; have c1_l := mk.2.1.lt; have c2_0 : _ = some _ := mk.2.2.1.cell 0; have c2_1 : _ = some _ := mk.2.2.1.cell 1; have c2_2 : _ = some _ := mk.2.2.1.cell 2; have c2_3 : _ = some _ := mk.2.2.1.cell 3; have c2_f := mk.2.2.1.free; have c2_l := mk.2.2.1.lt; have c3_0 : _ = some _ := mk.2.2.2.1.cell 0; have c3_1 : _ = some _ := mk.2.2.2.1.cell 1; have c3_2 : _ = some _ := mk.2.2.2.1.cell 2; have c3_3 : _ = some _ := mk.2.2.2.1.cell 3; have c3_f := mk.2.2.2.1.free; have c3_l := mk.2.2.2.1.lt; clear mk)
                  | fail)
                have MS2 : Hid (∀ w2, Ext V1 w2 → Ext w ((((w2.setCell ⟨w.heap.size, 0, none⟩ (.int .u64 r.ul)).setCell ⟨w.heap.size, 1, none⟩ (.int .u64 r.uh)).setCell ⟨w.heap.size, 2, none⟩ (.int .i64 (max r.sl (s64 r.ul)))).setCell ⟨w.heap.size, 3, none⟩ (.int .i64 (min r.sh (s64 r.uh)))) ∧ Bk ((((w2.setCell ⟨w.heap.size, 0, none⟩ (.int .u64 r.ul)).setCell ⟨w.heap.size, 1, none⟩ (.int .u64 r.uh)).setCell ⟨w.heap.size, 2, none⟩ (.int .i64 (max r.sl (s64 r.ul)))).setCell ⟨w.heap.size, 3, none⟩ (.int .i64 (min r.sh (s64 r.uh)))) (b8) #[.int .u64 r.ul, .int .u64 r.uh] 69 ∧ Bk ((((w2.setCell ⟨w.heap.size, 0, none⟩ (.int .u64 r.ul)).setCell ⟨w.heap.size, 1, none⟩ (.int .u64 r.uh)).setCell ⟨w.heap.size, 2, none⟩ (.int .i64 (max r.sl (s64 r.ul)))).setCell ⟨w.heap.size, 3, none⟩ (.int .i64 (min r.sh (s64 r.uh)))) (b9) #[.int .i64 (max r.sl (s64 r.ul)), .int .i64 (min r.sh (s64 r.uh))] 72 ∧ Bk ((((w2.setCell ⟨w.heap.size, 0, none⟩ (.int .u64 r.ul)).setCell ⟨w.heap.size, 1, none⟩ (.int .u64 r.uh)).setCell ⟨w.heap.size, 2, none⟩ (.int .i64 (max r.sl (s64 r.ul)))).setCell ⟨w.heap.size, 3, none⟩ (.int .i64 (min r.sh (s64 r.uh)))) (w.heap.size) #[.int .u64 r.ul, .int .u64 r.uh, .int .i64 (max r.sl (s64 r.ul)), .int .i64 (min r.sh (s64 r.uh))] 24 ∧ Bk ((((w2.setCell ⟨w.heap.size, 0, none⟩ (.int .u64 r.ul)).setCell ⟨w.heap.size, 1, none⟩ (.int .u64 r.uh)).setCell ⟨w.heap.size, 2, none⟩ (.int .i64 (max r.sl (s64 r.ul)))).setCell ⟨w.heap.size, 3, none⟩ (.int .i64 (min r.sh (s64 r.uh)))) (w.heap.size + 1) #[.int .u64 0, .int .u64 0, .int .i64 0, .int .i64 0] 24 ∧ True) := hide (fun w2 h => by
                  have mk := MV1.out _ h
                  exact ⟨(Ext.store1 (Ext.store1 (Ext.store1 (Ext.store1 (xV1.trans h) (by omega) _) (by omega) _) (by omega) _) (by omega) _), ((((mk.1.off (w.heap.size) 0 (.int .u64 r.ul) (by omega)).off (w.heap.size) 1 (.int .u64 r.uh) (by omega)).off (w.heap.size) 2 (.int .i64 (max r.sl (s64 r.ul))) (by omega)).off (w.heap.size) 3 (.int .i64 (min r.sh (s64 r.uh))) (by omega)), ((((mk.2.1.off (w.heap.size) 0 (.int .u64 r.ul) (by omega)).off (w.heap.size) 1 (.int .u64 r.uh) (by omega)).off (w.heap.size) 2 (.int .i64 (max r.sl (s64 r.ul))) (by omega)).off (w.heap.size) 3 (.int .i64 (min r.sh (s64 r.uh))) (by omega)), ((((mk.2.2.1.set 0 (.int .u64 r.ul)).set 1 (.int .u64 r.uh)).set 2 (.int .i64 (max r.sl (s64 r.ul)))).set 3 (.int .i64 (min r.sh (s64 r.uh)))), ((((mk.2.2.2.1.off (w.heap.size) 0 (.int .u64 r.ul) (by omega)).off (w.heap.size) 1 (.int .u64 r.uh) (by omega)).off (w.heap.size) 2 (.int .i64 (max r.sl (s64 r.ul))) (by omega)).off (w.heap.size) 3 (.int .i64 (min r.sh (s64 r.uh))) (by omega)), trivial⟩)
                obtain ⟨V2, hV2⟩ : ∃ V2, V2 = ((((w'.setCell ⟨w.heap.size, 0, none⟩ (.int .u64 r.ul)).setCell ⟨w.heap.size, 1, none⟩ (.int .u64 r.uh)).setCell ⟨w.heap.size, 2, none⟩ (.int .i64 (max r.sl (s64 r.ul)))).setCell ⟨w.heap.size, 3, none⟩ (.int .i64 (min r.sh (s64 r.uh)))) := ⟨_, rfl⟩
                rw [← hV2]
                have ms := MS2.out _ hx'
                rw [← hV2] at ms
                have xV2 : Ext w V2 := ms.1
                have ms2 := hide ms.2
                have MV2 := hide (fun w2 (h : Ext V2 w2) => (⟨ms2.out.1.ext h, ms2.out.2.1.ext h, ms2.out.2.2.1.ext h, ms2.out.2.2.2.1.ext h, trivial⟩ : Bk w2 (b8) #[.int .u64 r.ul, .int .u64 r.uh] 69 ∧ Bk w2 (b9) #[.int .i64 (max r.sl (s64 r.ul)), .int .i64 (min r.sh (s64 r.uh))] 72 ∧ Bk w2 (w.heap.size) #[.int .u64 r.ul, .int .u64 r.uh, .int .i64 (max r.sl (s64 r.ul)), .int .i64 (min r.sh (s64 r.uh))] 24 ∧ Bk w2 (w.heap.size + 1) #[.int .u64 0, .int .u64 0, .int .i64 0, .int .i64 0] 24 ∧ True))
                clear hV2 ms MS2 hx'
                (try clear c0_0 c0_1 c1_0 c1_1 c2_0 c2_1 c2_2 c2_3 c3_0 c3_1 c3_2 c3_3 c0_f c1_f c2_f c3_f c0_l c1_l c2_l c3_l)
                have hx' : Ext V2 V2 := Ext.refl _
                (try clear c0_0 c0_1 c1_0 c1_1 c2_0 c2_1 c2_2 c2_3 c3_0 c3_1 c3_2 c3_3 c0_f c1_f c2_f c3_f c0_l c1_l c2_l c3_l); have mk := MV2.out _ hx'; have c0_0 : _ = some _ := mk.1.cell 0; have c0_1 : _ = some _ := mk.1.cell 1; have c0_f := mk.1.free; have c0_l := mk.1.lt; have c1_0 : _ = some _ := mk.2.1.cell 0; have c1_1 : _ = some _ := mk.2.1.cell 1; have c1_f := mk.2.1.free; have c1_l := mk.2.1.lt; have c2_0 : _ = some _ := mk.2.2.1.cell 0; have c2_1 : _ = some _ := mk.2.2.1.cell 1; have c2_2 : _ = some _ := mk.2.2.1.cell 2; have c2_3 : _ = some _ := mk.2.2.1.cell 3; have c2_f := mk.2.2.1.free; have c2_l := mk.2.2.1.lt; have c3_0 : _ = some _ := mk.2.2.2.1.cell 0; have c3_1 : _ = some _ := mk.2.2.2.1.cell 1; have c3_2 : _ = some _ := mk.2.2.2.1.cell 2; have c3_3 : _ = some _ := mk.2.2.2.1.cell 3; have c3_f := mk.2.2.2.1.free; have c3_l := mk.2.2.2.1.lt; clear mk
                go_wp2_with fail
                go_roundw
                case rel => exact ⟨1, by go_num, by omega, hide ⟨xV2, ⟨by rw [HE.out]; exact (MV2.out _ (Ext.refl _)).2.2.1, (MV2.out _ (Ext.refl _)).2.2.2.1⟩, HN.out⟩⟩
                case measure => simp [intOf]
            · as_aux_lemma =>
                have e : bnst 1 a = (⟨r.ul, r.uh, r.sl, r.sh⟩ : Rg) := nst_s0 HR.out (sgn0 wr0 hb)
                have HE := hide e
                clear e
                go_wp2_with (first
                  | (go_at_call 54; (with_reducible refine (b_of _ _ _ _ wc _ (by assumption)).mono ?_); rintro e w' ⟨rfl, hx'⟩; (try clear c0_0 c0_1 c1_0 c1_1 c2_0 c2_1 c2_2 c2_3 c3_0 c3_1 c3_2 c3_3 c0_f c1_f c2_f c3_f c0_l c1_l c2_l c3_l); have mk := MC1.out _ hx'; have c0_0 : _ = some _ := mk.1.cell 0; have c0_1 : _ = some _ := mk.1.cell 1; have c0_f := mk.1.free; have c0_l := mk.1.lt; have c1_0 : _ = some _ := mk.2.1.cell 0; have c1_1 : _ = some _ := mk.2.1.cell 1; have c1_f := mk.2.1.free; have c1_l := mk.2.1.lt; have c2_0 : _ = some _ := mk.2.2.1.cell 0; have c2_1 : _ = some _ := mk.2.2.1.cell 1; have c2_2 : _ = some _ := mk.2.2.1.cell 2; have c2_3 : _ = some _ := mk.2.2.1.cell 3; have c2_f := mk.2.2.1.free; have c2_l := mk.2.2.1.lt; have c3_0 : _ = some _ := mk.2.2.2.1.cell 0; have c3_1 : _ = some _ := mk.2.2.2.1.cell 1; have c3_2 : _ = some _ := mk.2.2.2.1.cell 2; have c3_3 : _ = some _ := mk.2.2.2.1.cell 3; have c3_f := mk.2.2.2.1.free; have c3_l := mk.2.2.2.1.lt; clear mk)
                  | fail)
                have MS1 : Hid (∀ w2, Ext wc w2 → Ext w ((((w2.setCell ⟨w.heap.size, 0, none⟩ (.int .u64 r.ul)).setCell ⟨w.heap.size, 1, none⟩ (.int .u64 r.uh)).setCell ⟨w.heap.size, 2, none⟩ (.int .i64 r.sl)).setCell ⟨w.heap.size, 3, none⟩ (.int .i64 r.sh)) ∧ Bk ((((w2.setCell ⟨w.heap.size, 0, none⟩ (.int .u64 r.ul)).setCell ⟨w.heap.size, 1, none⟩ (.int .u64 r.uh)).setCell ⟨w.heap.size, 2, none⟩ (.int .i64 r.sl)).setCell ⟨w.heap.size, 3, none⟩ (.int .i64 r.sh)) (b8) #[.int .u64 r.ul, .int .u64 r.uh] 69 ∧ Bk ((((w2.setCell ⟨w.heap.size, 0, none⟩ (.int .u64 r.ul)).setCell ⟨w.heap.size, 1, none⟩ (.int .u64 r.uh)).setCell ⟨w.heap.size, 2, none⟩ (.int .i64 r.sl)).setCell ⟨w.heap.size, 3, none⟩ (.int .i64 r.sh)) (b9) #[.int .i64 r.sl, .int .i64 r.sh] 72 ∧ Bk ((((w2.setCell ⟨w.heap.size, 0, none⟩ (.int .u64 r.ul)).setCell ⟨w.heap.size, 1, none⟩ (.int .u64 r.uh)).setCell ⟨w.heap.size, 2, none⟩ (.int .i64 r.sl)).setCell ⟨w.heap.size, 3, none⟩ (.int .i64 r.sh)) (w.heap.size) #[.int .u64 r.ul, .int .u64 r.uh, .int .i64 r.sl, .int .i64 r.sh] 24 ∧ Bk ((((w2.setCell ⟨w.heap.size, 0, none⟩ (.int .u64 r.ul)).setCell ⟨w.heap.size, 1, none⟩ (.int .u64 r.uh)).setCell ⟨w.heap.size, 2, none⟩ (.int .i64 r.sl)).setCell ⟨w.heap.size, 3, none⟩ (.int .i64 r.sh)) (w.heap.size + 1) #[.int .u64 0, .int .u64 0, .int .i64 0, .int .i64 0] 24 ∧ True) := hide (fun w2 h => by
                  have mk := MC1.out _ h
                  exact ⟨(Ext.store1 (Ext.store1 (Ext.store1 (Ext.store1 (xC1.trans h) (by omega) _) (by omega) _) (by omega) _) (by omega) _), ((((mk.1.off (w.heap.size) 0 (.int .u64 r.ul) (by omega)).off (w.heap.size) 1 (.int .u64 r.uh) (by omega)).off (w.heap.size) 2 (.int .i64 r.sl) (by omega)).off (w.heap.size) 3 (.int .i64 r.sh) (by omega)), ((((mk.2.1.off (w.heap.size) 0 (.int .u64 r.ul) (by omega)).off (w.heap.size) 1 (.int .u64 r.uh) (by omega)).off (w.heap.size) 2 (.int .i64 r.sl) (by omega)).off (w.heap.size) 3 (.int .i64 r.sh) (by omega)), ((((mk.2.2.1.set 0 (.int .u64 r.ul)).set 1 (.int .u64 r.uh)).set 2 (.int .i64 r.sl)).set 3 (.int .i64 r.sh)), ((((mk.2.2.2.1.off (w.heap.size) 0 (.int .u64 r.ul) (by omega)).off (w.heap.size) 1 (.int .u64 r.uh) (by omega)).off (w.heap.size) 2 (.int .i64 r.sl) (by omega)).off (w.heap.size) 3 (.int .i64 r.sh) (by omega)), trivial⟩)
                obtain ⟨V1, hV1⟩ : ∃ V1, V1 = ((((w'.setCell ⟨w.heap.size, 0, none⟩ (.int .u64 r.ul)).setCell ⟨w.heap.size, 1, none⟩ (.int .u64 r.uh)).setCell ⟨w.heap.size, 2, none⟩ (.int .i64 r.sl)).setCell ⟨w.heap.size, 3, none⟩ (.int .i64 r.sh)) := ⟨_, rfl⟩
                rw [← hV1]
                have ms := MS1.out _ hx'
                rw [← hV1] at ms
                have xV1 : Ext w V1 := ms.1
                have ms2 := hide ms.2
                have MV1 := hide (fun w2 (h : Ext V1 w2) => (⟨ms2.out.1.ext h, ms2.out.2.1.ext h, ms2.out.2.2.1.ext h, ms2.out.2.2.2.1.ext h, trivial⟩ : Bk w2 (b8) #[.int .u64 r.ul, .int .u64 r.uh] 69 ∧ Bk w2 (b9) #[.int .i64 r.sl, .int .i64 r.sh] 72 ∧ Bk w2 (w.heap.size) #[.int .u64 r.ul, .int .u64 r.uh, .int .i64 r.sl, .int .i64 r.sh] 24 ∧ Bk w2 (w.heap.size + 1) #[.int .u64 0, .int .u64 0, .int .i64 0, .int .i64 0] 24 ∧ True))
                clear hV1 ms MS1 hx'
                (try clear c0_0 c0_1 c1_0 c1_1 c2_0 c2_1 c2_2 c2_3 c3_0 c3_1 c3_2 c3_3 c0_f c1_f c2_f c3_f c0_l c1_l c2_l c3_l)
                have hx' : Ext V1 V1 := Ext.refl _
                (try clear c0_0 c0_1 c1_0 c1_1 c2_0 c2_1 c2_2 c2_3 c3_0 c3_1 c3_2 c3_3 c0_f c1_f c2_f c3_f c0_l c1_l c2_l c3_l); have mk := MV1.out _ hx'; have c0_0 : _ = some _ := mk.1.cell 0; have c0_1 : _ = some _ := mk.1.cell 1; have c0_f := mk.1.free; have c0_l := mk.1.lt; have c1_0 : _ = some _ := mk.2.1.cell 0; have c1_1 : _ = some _ := mk.2.1.cell 1; have c1_f := mk.2.1.free; have c1_l := mk.2.1.lt; have c2_0 : _ = some _ := mk.2.2.1.cell 0; have c2_1 : _ = some _ := mk.2.2.1.cell 1; have c2_2 : _ = some _ := mk.2.2.1.cell 2; have c2_3 : _ = some _ := mk.2.2.1.cell 3; have c2_f := mk.2.2.1.free; have c2_l := mk.2.2.1.lt; have c3_0 : _ = some _ := mk.2.2.2.1.cell 0; have c3_1 : _ = some _ := mk.2.2.2.1.cell 1; have c3_2 : _ = some _ := mk.2.2.2.1.cell 2; have c3_3 : _ = some _ := mk.2.2.2.1.cell 3; have c3_f := mk.2.2.2.1.free; have c3_l := mk.2.2.2.1.lt; clear mk
                go_wp2_with fail
                go_roundw
                case rel => exact ⟨1, by go_num, by omega, hide ⟨xV1, ⟨by rw [HE.out]; exact (MV1.out _ (Ext.refl _)).2.2.1, (MV1.out _ (Ext.refl _)).2.2.2.1⟩, HN.out⟩⟩
                case measure => simp [intOf]
        · as_aux_lemma =>
            have hb : (decide (r.sl < 0) == decide (r.sh < 0)) = true ∨ (decide (r.sl < 0) == decide (r.sh < 0)) = false := by cases (decide (r.sl < 0) == decide (r.sh < 0)) <;> simp
            rcases hb with hb | hb
            · as_aux_lemma =>
                have e : bnst 2 a = (⟨(max r.ul (IntKind.u64.wrap r.sl)), (min r.uh (IntKind.u64.wrap r.sh)), r.sl, r.sh⟩ : Rg) := nst_uns1 HR.out hb
                have HE := hide e
                clear e
                go_wp2_with (first
                  | (go_at_call 52; (with_reducible refine (b_umeet _ _ _ _ wc _ (by assumption)).mono ?_); rintro e w' ⟨rfl, hx'⟩; (try clear c0_0 c0_1 c1_0 c1_1 c2_0 c2_1 c2_2 c2_3 c3_0 c3_1 c3_2 c3_3 c0_f c1_f c2_f c3_f c0_l c1_l c2_l c3_l); have mk := MC1.out _ hx'; have c0_0 : _ = some _ := mk.1.cell 0; have c0_1 : _ = some _ := mk.1.cell 1; have c0_f := mk.1.free; have c0_l := mk.1.lt; have c1_0 : _ = some _ := mk.2.1.cell 0; have c1_1 : _ = some _ := mk.2.1.cell 1; have c1_f := mk.2.1.free; have c1_l := mk.2.1.lt; have c2_0 : _ = some _ := mk.2.2.1.cell 0; have c2_1 : _ = some _ := mk.2.2.1.cell 1; have c2_2 : _ = some _ := mk.2.2.1.cell 2; have c2_3 : _ = some _ := mk.2.2.1.cell 3; have c2_f := mk.2.2.1.free; have c2_l := mk.2.2.1.lt; have c3_0 : _ = some _ := mk.2.2.2.1.cell 0; have c3_1 : _ = some _ := mk.2.2.2.1.cell 1; have c3_2 : _ = some _ := mk.2.2.2.1.cell 2; have c3_3 : _ = some _ := mk.2.2.2.1.cell 3; have c3_f := mk.2.2.2.1.free; have c3_l := mk.2.2.2.1.lt; clear mk)
                  | fail)
                have MS1 : Hid (∀ w2, Ext wc w2 → Ext w ((w2.setCell ⟨b8, 0, none⟩ (.int .u64 (max r.ul (IntKind.u64.wrap r.sl)))).setCell ⟨b8, 1, none⟩ (.int .u64 (min r.uh (IntKind.u64.wrap r.sh)))) ∧ Bk ((w2.setCell ⟨b8, 0, none⟩ (.int .u64 (max r.ul (IntKind.u64.wrap r.sl)))).setCell ⟨b8, 1, none⟩ (.int .u64 (min r.uh (IntKind.u64.wrap r.sh)))) (b8) #[.int .u64 (max r.ul (IntKind.u64.wrap r.sl)), .int .u64 (min r.uh (IntKind.u64.wrap r.sh))] 69 ∧ Bk ((w2.setCell ⟨b8, 0, none⟩ (.int .u64 (max r.ul (IntKind.u64.wrap r.sl)))).setCell ⟨b8, 1, none⟩ (.int .u64 (min r.uh (IntKind.u64.wrap r.sh)))) (b9) #[.int .i64 r.sl, .int .i64 r.sh] 72 ∧ Bk ((w2.setCell ⟨b8, 0, none⟩ (.int .u64 (max r.ul (IntKind.u64.wrap r.sl)))).setCell ⟨b8, 1, none⟩ (.int .u64 (min r.uh (IntKind.u64.wrap r.sh)))) (w.heap.size) #[.int .u64 r.ul, .int .u64 r.uh, .int .i64 r.sl, .int .i64 r.sh] 24 ∧ Bk ((w2.setCell ⟨b8, 0, none⟩ (.int .u64 (max r.ul (IntKind.u64.wrap r.sl)))).setCell ⟨b8, 1, none⟩ (.int .u64 (min r.uh (IntKind.u64.wrap r.sh)))) (w.heap.size + 1) #[.int .u64 0, .int .u64 0, .int .i64 0, .int .i64 0] 24 ∧ True) := hide (fun w2 h => by
                  have mk := MC1.out _ h
                  exact ⟨(Ext.store1 (Ext.store1 (xC1.trans h) (by omega) _) (by omega) _), ((mk.1.set 0 (.int .u64 (max r.ul (IntKind.u64.wrap r.sl)))).set 1 (.int .u64 (min r.uh (IntKind.u64.wrap r.sh)))), ((mk.2.1.off (b8) 0 (.int .u64 (max r.ul (IntKind.u64.wrap r.sl))) (by omega)).off (b8) 1 (.int .u64 (min r.uh (IntKind.u64.wrap r.sh))) (by omega)), ((mk.2.2.1.off (b8) 0 (.int .u64 (max r.ul (IntKind.u64.wrap r.sl))) (by omega)).off (b8) 1 (.int .u64 (min r.uh (IntKind.u64.wrap r.sh))) (by omega)), ((mk.2.2.2.1.off (b8) 0 (.int .u64 (max r.ul (IntKind.u64.wrap r.sl))) (by omega)).off (b8) 1 (.int .u64 (min r.uh (IntKind.u64.wrap r.sh))) (by omega)), trivial⟩)
                obtain ⟨V1, hV1⟩ : ∃ V1, V1 = ((w'.setCell ⟨b8, 0, none⟩ (.int .u64 (max r.ul (IntKind.u64.wrap r.sl)))).setCell ⟨b8, 1, none⟩ (.int .u64 (min r.uh (IntKind.u64.wrap r.sh)))) := ⟨_, rfl⟩
                rw [← hV1]
                have ms := MS1.out _ hx'
                rw [← hV1] at ms
                have xV1 : Ext w V1 := ms.1
                have ms2 := hide ms.2
                have MV1 := hide (fun w2 (h : Ext V1 w2) => (⟨ms2.out.1.ext h, ms2.out.2.1.ext h, ms2.out.2.2.1.ext h, ms2.out.2.2.2.1.ext h, trivial⟩ : Bk w2 (b8) #[.int .u64 (max r.ul (IntKind.u64.wrap r.sl)), .int .u64 (min r.uh (IntKind.u64.wrap r.sh))] 69 ∧ Bk w2 (b9) #[.int .i64 r.sl, .int .i64 r.sh] 72 ∧ Bk w2 (w.heap.size) #[.int .u64 r.ul, .int .u64 r.uh, .int .i64 r.sl, .int .i64 r.sh] 24 ∧ Bk w2 (w.heap.size + 1) #[.int .u64 0, .int .u64 0, .int .i64 0, .int .i64 0] 24 ∧ True))
                clear hV1 ms MS1 hx'
                (try clear c0_0 c0_1 c1_0 c1_1 c2_0 c2_1 c2_2 c2_3 c3_0 c3_1 c3_2 c3_3 c0_f c1_f c2_f c3_f c0_l c1_l c2_l c3_l)
                have hx' : Ext V1 V1 := Ext.refl _
                (try clear c0_0 c0_1 c1_0 c1_1 c2_0 c2_1 c2_2 c2_3 c3_0 c3_1 c3_2 c3_3 c0_f c1_f c2_f c3_f c0_l c1_l c2_l c3_l); have mk := MV1.out _ hx'; have c0_0 : _ = some _ := mk.1.cell 0; have c0_1 : _ = some _ := mk.1.cell 1; have c0_f := mk.1.free; have c0_l := mk.1.lt; have c1_0 : _ = some _ := mk.2.1.cell 0; have c1_1 : _ = some _ := mk.2.1.cell 1; have c1_f := mk.2.1.free; have c1_l := mk.2.1.lt; have c2_0 : _ = some _ := mk.2.2.1.cell 0; have c2_1 : _ = some _ := mk.2.2.1.cell 1; have c2_2 : _ = some _ := mk.2.2.1.cell 2; have c2_3 : _ = some _ := mk.2.2.1.cell 3; have c2_f := mk.2.2.1.free; have c2_l := mk.2.2.1.lt; have c3_0 : _ = some _ := mk.2.2.2.1.cell 0; have c3_1 : _ = some _ := mk.2.2.2.1.cell 1; have c3_2 : _ = some _ := mk.2.2.2.1.cell 2; have c3_3 : _ = some _ := mk.2.2.2.1.cell 3; have c3_f := mk.2.2.2.1.free; have c3_l := mk.2.2.2.1.lt; clear mk
                go_wp2_with (first
                  | (go_at_call 54; (with_reducible refine (b_of _ _ _ _ V1 _ (by assumption)).mono ?_); rintro e w' ⟨rfl, hx'⟩; (try clear c0_0 c0_1 c1_0 c1_1 c2_0 c2_1 c2_2 c2_3 c3_0 c3_1 c3_2 c3_3 c0_f c1_f c2_f c3_f c0_l c1_l c2_l c3_l); have mk := MV1.out _ hx'; have c0_0 : _ = some _ := mk.1.cell 0; have c0_1 : _ = some _ := mk.1.cell 1; have c0_f := mk.1.free; have c0_l := mk.1.lt; have c1_0 : _ = some _ := mk.2.1.cell 0; have c1_1 : _ = some _ := mk.2.1.cell 1; have c1_f := mk.2.1.free; have c1_l := mk.2.1.lt; have c2_0 : _ = some _ := mk.2.2.1.cell 0; have c2_1 : _ = some _ := mk.2.2.1.cell 1; have c2_2 : _ = some _ := mk.2.2.1.cell 2; have c2_3 : _ = some _ := mk.2.2.1.cell 3; have c2_f := mk.2.2.1.free; have c2_l := mk.2.2.1.lt; have c3_0 : _ = some _ := mk.2.2.2.1.cell 0; have c3_1 : _ = some _ := mk.2.2.2.1.cell 1; have c3_2 : _ = some _ := mk.2.2.2.1.cell 2; have c3_3 : _ = some _ := mk.2.2.2.1.cell 3; have c3_f := mk.2.2.2.1.free; have c3_l := mk.2.2.2.1.lt; clear mk)
                  | fail)
                have MS2 : Hid (∀ w2, Ext V1 w2 → Ext w ((((w2.setCell ⟨w.heap.size, 0, none⟩ (.int .u64 (max r.ul (IntKind.u64.wrap r.sl)))).setCell ⟨w.heap.size, 1, none⟩ (.int .u64 (min r.uh (IntKind.u64.wrap r.sh)))).setCell ⟨w.heap.size, 2, none⟩ (.int .i64 r.sl)).setCell ⟨w.heap.size, 3, none⟩ (.int .i64 r.sh)) ∧ Bk ((((w2.setCell ⟨w.heap.size, 0, none⟩ (.int .u64 (max r.ul (IntKind.u64.wrap r.sl)))).setCell ⟨w.heap.size, 1, none⟩ (.int .u64 (min r.uh (IntKind.u64.wrap r.sh)))).setCell ⟨w.heap.size, 2, none⟩ (.int .i64 r.sl)).setCell ⟨w.heap.size, 3, none⟩ (.int .i64 r.sh)) (b8) #[.int .u64 (max r.ul (IntKind.u64.wrap r.sl)), .int .u64 (min r.uh (IntKind.u64.wrap r.sh))] 69 ∧ Bk ((((w2.setCell ⟨w.heap.size, 0, none⟩ (.int .u64 (max r.ul (IntKind.u64.wrap r.sl)))).setCell ⟨w.heap.size, 1, none⟩ (.int .u64 (min r.uh (IntKind.u64.wrap r.sh)))).setCell ⟨w.heap.size, 2, none⟩ (.int .i64 r.sl)).setCell ⟨w.heap.size, 3, none⟩ (.int .i64 r.sh)) (b9) #[.int .i64 r.sl, .int .i64 r.sh] 72 ∧ Bk ((((w2.setCell ⟨w.heap.size, 0, none⟩ (.int .u64 (max r.ul (IntKind.u64.wrap r.sl)))).setCell ⟨w.heap.size, 1, none⟩ (.int .u64 (min r.uh (IntKind.u64.wrap r.sh)))).setCell ⟨w.heap.size, 2, none⟩ (.int .i64 r.sl)).setCell ⟨w.heap.size, 3, none⟩ (.int .i64 r.sh)) (w.heap.size) #[.int .u64 (max r.ul (IntKind.u64.wrap r.sl)), .int .u64 (min r.uh (IntKind.u64.wrap r.sh)), .int .i64 r.sl, .int .i64 r.sh] 24 ∧ Bk ((((w2.setCell ⟨w.heap.size, 0, none⟩ (.int .u64 (max r.ul (IntKind.u64.wrap r.sl)))).setCell ⟨w.heap.size, 1, none⟩ (.int .u64 (min r.uh (IntKind.u64.wrap r.sh)))).setCell ⟨w.heap.size, 2, none⟩ (.int .i64 r.sl)).setCell ⟨w.heap.size, 3, none⟩ (.int .i64 r.sh)) (w.heap.size + 1) #[.int .u64 0, .int .u64 0, .int .i64 0, .int .i64 0] 24 ∧ True) := hide (fun w2 h => by
                  have mk := MV1.out _ h
                  exact ⟨(Ext.store1 (Ext.store1 (Ext.store1 (Ext.store1 (xV1.trans h) (by omega) _) (by omega) _) (by omega) _) (by omega) _), ((((mk.1.off (w.heap.size) 0 (.int .u64 (max r.ul (IntKind.u64.wrap r.sl))) (by omega)).off (w.heap.size) 1 (.int .u64 (min r.uh (IntKind.u64.wrap r.sh))) (by omega)).off (w.heap.size) 2 (.int .i64 r.sl) (by omega)).off (w.heap.size) 3 (.int .i64 r.sh) (by omega)), ((((mk.2.1.off (w.heap.size) 0 (.int .u64 (max r.ul (IntKind.u64.wrap r.sl))) (by omega)).off (w.heap.size) 1 (.int .u64 (min r.uh (IntKind.u64.wrap r.sh))) (by omega)).off (w.heap.size) 2 (.int .i64 r.sl) (by omega)).off (w.heap.size) 3 (.int .i64 r.sh) (by omega)), ((((mk.2.2.1.set 0 (.int .u64 (max r.ul (IntKind.u64.wrap r.sl)))).set 1 (.int .u64 (min r.uh (IntKind.u64.wrap r.sh)))).set 2 (.int .i64 r.sl)).set 3 (.int .i64 r.sh)), ((((mk.2.2.2.1.off (w.heap.size) 0 (.int .u64 (max r.ul (IntKind.u64.wrap r.sl))) (by omega)).off (w.heap.size) 1 (.int .u64 (min r.uh (IntKind.u64.wrap r.sh))) (by omega)).off (w.heap.size) 2 (.int .i64 r.sl) (by omega)).off (w.heap.size) 3 (.int .i64 r.sh) (by omega)), trivial⟩)
                obtain ⟨V2, hV2⟩ : ∃ V2, V2 = ((((w'.setCell ⟨w.heap.size, 0, none⟩ (.int .u64 (max r.ul (IntKind.u64.wrap r.sl)))).setCell ⟨w.heap.size, 1, none⟩ (.int .u64 (min r.uh (IntKind.u64.wrap r.sh)))).setCell ⟨w.heap.size, 2, none⟩ (.int .i64 r.sl)).setCell ⟨w.heap.size, 3, none⟩ (.int .i64 r.sh)) := ⟨_, rfl⟩
                rw [← hV2]
                have ms := MS2.out _ hx'
                rw [← hV2] at ms
                have xV2 : Ext w V2 := ms.1
                have ms2 := hide ms.2
                have MV2 := hide (fun w2 (h : Ext V2 w2) => (⟨ms2.out.1.ext h, ms2.out.2.1.ext h, ms2.out.2.2.1.ext h, ms2.out.2.2.2.1.ext h, trivial⟩ : Bk w2 (b8) #[.int .u64 (max r.ul (IntKind.u64.wrap r.sl)), .int .u64 (min r.uh (IntKind.u64.wrap r.sh))] 69 ∧ Bk w2 (b9) #[.int .i64 r.sl, .int .i64 r.sh] 72 ∧ Bk w2 (w.heap.size) #[.int .u64 (max r.ul (IntKind.u64.wrap r.sl)), .int .u64 (min r.uh (IntKind.u64.wrap r.sh)), .int .i64 r.sl, .int .i64 r.sh] 24 ∧ Bk w2 (w.heap.size + 1) #[.int .u64 0, .int .u64 0, .int .i64 0, .int .i64 0] 24 ∧ True))
                clear hV2 ms MS2 hx'
                (try clear c0_0 c0_1 c1_0 c1_1 c2_0 c2_1 c2_2 c2_3 c3_0 c3_1 c3_2 c3_3 c0_f c1_f c2_f c3_f c0_l c1_l c2_l c3_l)
                have hx' : Ext V2 V2 := Ext.refl _
                (try clear c0_0 c0_1 c1_0 c1_1 c2_0 c2_1 c2_2 c2_3 c3_0 c3_1 c3_2 c3_3 c0_f c1_f c2_f c3_f c0_l c1_l c2_l c3_l); have mk := MV2.out _ hx'; have c0_0 : _ = some _ := mk.1.cell 0; have c0_1 : _ = some _ := mk.1.cell 1; have c0_f := mk.1.free; have c0_l := mk.1.lt; have c1_0 : _ = some _ := mk.2.1.cell 0; have c1_1 : _ = some _ := mk.2.1.cell 1; have c1_f := mk.2.1.free; have c1_l := mk.2.1.lt; have c2_0 : _ = some _ := mk.2.2.1.cell 0; have c2_1 : _ = some _ := mk.2.2.1.cell 1; have c2_2 : _ = some _ := mk.2.2.1.cell 2; have c2_3 : _ = some _ := mk.2.2.1.cell 3; have c2_f := mk.2.2.1.free; have c2_l := mk.2.2.1.lt; have c3_0 : _ = some _ := mk.2.2.2.1.cell 0; have c3_1 : _ = some _ := mk.2.2.2.1.cell 1; have c3_2 : _ = some _ := mk.2.2.2.1.cell 2; have c3_3 : _ = some _ := mk.2.2.2.1.cell 3; have c3_f := mk.2.2.2.1.free; have c3_l := mk.2.2.2.1.lt; clear mk
                go_wp2_with fail
                go_roundw
                case rel => exact ⟨2, by go_num, by omega, hide ⟨xV2, ⟨by rw [HE.out]; exact (MV2.out _ (Ext.refl _)).2.2.1, (MV2.out _ (Ext.refl _)).2.2.2.1⟩, HN.out⟩⟩
                case measure => simp [intOf]
            · as_aux_lemma =>
                have e : bnst 2 a = (⟨r.ul, r.uh, r.sl, r.sh⟩ : Rg) := nst_uns0 HR.out hb
                have HE := hide e
                clear e
                go_wp2_with (first
                  | (go_at_call 54; (with_reducible refine (b_of _ _ _ _ wc _ (by assumption)).mono ?_); rintro e w' ⟨rfl, hx'⟩; (try clear c0_0 c0_1 c1_0 c1_1 c2_0 c2_1 c2_2 c2_3 c3_0 c3_1 c3_2 c3_3 c0_f c1_f c2_f c3_f c0_l c1_l c2_l c3_l); have mk := MC1.out _ hx'; have c0_0 : _ = some _ := mk.1.cell 0; have c0_1 : _ = some _ := mk.1.cell 1; have c0_f := mk.1.free; have c0_l := mk.1.lt; have c1_0 : _ = some _ := mk.2.1.cell 0; have c1_1 : _ = some _ := mk.2.1.cell 1; have c1_f := mk.2.1.free; have c1_l := mk.2.1.lt; have c2_0 : _ = some _ := mk.2.2.1.cell 0; have c2_1 : _ = some _ := mk.2.2.1.cell 1; have c2_2 : _ = some _ := mk.2.2.1.cell 2; have c2_3 : _ = some _ := mk.2.2.1.cell 3; have c2_f := mk.2.2.1.free; have c2_l := mk.2.2.1.lt; have c3_0 : _ = some _ := mk.2.2.2.1.cell 0; have c3_1 : _ = some _ := mk.2.2.2.1.cell 1; have c3_2 : _ = some _ := mk.2.2.2.1.cell 2; have c3_3 : _ = some _ := mk.2.2.2.1.cell 3; have c3_f := mk.2.2.2.1.free; have c3_l := mk.2.2.2.1.lt; clear mk)
                  | fail)
                have MS1 : Hid (∀ w2, Ext wc w2 → Ext w ((((w2.setCell ⟨w.heap.size, 0, none⟩ (.int .u64 r.ul)).setCell ⟨w.heap.size, 1, none⟩ (.int .u64 r.uh)).setCell ⟨w.heap.size, 2, none⟩ (.int .i64 r.sl)).setCell ⟨w.heap.size, 3, none⟩ (.int .i64 r.sh)) ∧ Bk ((((w2.setCell ⟨w.heap.size, 0, none⟩ (.int .u64 r.ul)).setCell ⟨w.heap.size, 1, none⟩ (.int .u64 r.uh)).setCell ⟨w.heap.size, 2, none⟩ (.int .i64 r.sl)).setCell ⟨w.heap.size, 3, none⟩ (.int .i64 r.sh)) (b8) #[.int .u64 r.ul, .int .u64 r.uh] 69 ∧ Bk ((((w2.setCell ⟨w.heap.size, 0, none⟩ (.int .u64 r.ul)).setCell ⟨w.heap.size, 1, none⟩ (.int .u64 r.uh)).setCell ⟨w.heap.size, 2, none⟩ (.int .i64 r.sl)).setCell ⟨w.heap.size, 3, none⟩ (.int .i64 r.sh)) (b9) #[.int .i64 r.sl, .int .i64 r.sh] 72 ∧ Bk ((((w2.setCell ⟨w.heap.size, 0, none⟩ (.int .u64 r.ul)).setCell ⟨w.heap.size, 1, none⟩ (.int .u64 r.uh)).setCell ⟨w.heap.size, 2, none⟩ (.int .i64 r.sl)).setCell ⟨w.heap.size, 3, none⟩ (.int .i64 r.sh)) (w.heap.size) #[.int .u64 r.ul, .int .u64 r.uh, .int .i64 r.sl, .int .i64 r.sh] 24 ∧ Bk ((((w2.setCell ⟨w.heap.size, 0, none⟩ (.int .u64 r.ul)).setCell ⟨w.heap.size, 1, none⟩ (.int .u64 r.uh)).setCell ⟨w.heap.size, 2, none⟩ (.int .i64 r.sl)).setCell ⟨w.heap.size, 3, none⟩ (.int .i64 r.sh)) (w.heap.size + 1) #[.int .u64 0, .int .u64 0, .int .i64 0, .int .i64 0] 24 ∧ True) := hide (fun w2 h => by
                  have mk := MC1.out _ h
                  exact ⟨(Ext.store1 (Ext.store1 (Ext.store1 (Ext.store1 (xC1.trans h) (by omega) _) (by omega) _) (by omega) _) (by omega) _), ((((mk.1.off (w.heap.size) 0 (.int .u64 r.ul) (by omega)).off (w.heap.size) 1 (.int .u64 r.uh) (by omega)).off (w.heap.size) 2 (.int .i64 r.sl) (by omega)).off (w.heap.size) 3 (.int .i64 r.sh) (by omega)), ((((mk.2.1.off (w.heap.size) 0 (.int .u64 r.ul) (by omega)).off (w.heap.size) 1 (.int .u64 r.uh) (by omega)).off (w.heap.size) 2 (.int .i64 r.sl) (by omega)).off (w.heap.size) 3 (.int .i64 r.sh) (by omega)), ((((mk.2.2.1.set 0 (.int .u64 r.ul)).set 1 (.int .u64 r.uh)).set 2 (.int .i64 r.sl)).set 3 (.int .i64 r.sh)), ((((mk.2.2.2.1.off (w.heap.size) 0 (.int .u64 r.ul) (by omega)).off (w.heap.size) 1 (.int .u64 r.uh) (by omega)).off (w.heap.size) 2 (.int .i64 r.sl) (by omega)).off (w.heap.size) 3 (.int .i64 r.sh) (by omega)), trivial⟩)
                obtain ⟨V1, hV1⟩ : ∃ V1, V1 = ((((w'.setCell ⟨w.heap.size, 0, none⟩ (.int .u64 r.ul)).setCell ⟨w.heap.size, 1, none⟩ (.int .u64 r.uh)).setCell ⟨w.heap.size, 2, none⟩ (.int .i64 r.sl)).setCell ⟨w.heap.size, 3, none⟩ (.int .i64 r.sh)) := ⟨_, rfl⟩
                rw [← hV1]
                have ms := MS1.out _ hx'
                rw [← hV1] at ms
                have xV1 : Ext w V1 := ms.1
                have ms2 := hide ms.2
                have MV1 := hide (fun w2 (h : Ext V1 w2) => (⟨ms2.out.1.ext h, ms2.out.2.1.ext h, ms2.out.2.2.1.ext h, ms2.out.2.2.2.1.ext h, trivial⟩ : Bk w2 (b8) #[.int .u64 r.ul, .int .u64 r.uh] 69 ∧ Bk w2 (b9) #[.int .i64 r.sl, .int .i64 r.sh] 72 ∧ Bk w2 (w.heap.size) #[.int .u64 r.ul, .int .u64 r.uh, .int .i64 r.sl, .int .i64 r.sh] 24 ∧ Bk w2 (w.heap.size + 1) #[.int .u64 0, .int .u64 0, .int .i64 0, .int .i64 0] 24 ∧ True))
                clear hV1 ms MS1 hx'
                (try clear c0_0 c0_1 c1_0 c1_1 c2_0 c2_1 c2_2 c2_3 c3_0 c3_1 c3_2 c3_3 c0_f c1_f c2_f c3_f c0_l c1_l c2_l c3_l)
                have hx' : Ext V1 V1 := Ext.refl _
                (try clear c0_0 c0_1 c1_0 c1_1 c2_0 c2_1 c2_2 c2_3 c3_0 c3_1 c3_2 c3_3 c0_f c1_f c2_f c3_f c0_l c1_l c2_l c3_l); have mk := MV1.out _ hx'; have c0_0 : _ = some _ := mk.1.cell 0; have c0_1 : _ = some _ := mk.1.cell 1; have c0_f := mk.1.free; have c0_l := mk.1.lt; have c1_0 : _ = some _ := mk.2.1.cell 0; have c1_1 : _ = some _ := mk.2.1.cell 1; have c1_f := mk.2.1.free; have c1_l := mk.2.1.lt; have c2_0 : _ = some _ := mk.2.2.1.cell 0; have c2_1 : _ = some _ := mk.2.2.1.cell 1; have c2_2 : _ = some _ := mk.2.2.1.cell 2; have c2_3 : _ = some _ := mk.2.2.1.cell 3; have c2_f := mk.2.2.1.free; have c2_l := mk.2.2.1.lt; have c3_0 : _ = some _ := mk.2.2.2.1.cell 0; have c3_1 : _ = some _ := mk.2.2.2.1.cell 1; have c3_2 : _ = some _ := mk.2.2.2.1.cell 2; have c3_3 : _ = some _ := mk.2.2.2.1.cell 3; have c3_f := mk.2.2.2.1.free; have c3_l := mk.2.2.2.1.lt; clear mk
                go_wp2_with fail
                go_roundw
                case rel => exact ⟨2, by go_num, by omega, hide ⟨xV1, ⟨by rw [HE.out]; exact (MV1.out _ (Ext.refl _)).2.2.1, (MV1.out _ (Ext.refl _)).2.2.2.1⟩, HN.out⟩⟩
                case measure => simp [intOf]
        · as_aux_lemma =>
            have hb : decide (hib r.ul = hib r.uh) = true ∨ decide (hib r.ul = hib r.uh) = false := by cases decide (hib r.ul = hib r.uh) <;> simp
            rw [← hib_shr wr0.1 wr0.2.1] at hb
            rcases hb with hb | hb
            · as_aux_lemma =>
                have e : bnst 3 a = (⟨r.ul, r.uh, (max r.sl (s64 r.ul)), (min r.sh (s64 r.uh))⟩ : Rg) := nst_s2 HR.out (sgn1 wr0 hb)
                have HE := hide e
                clear e
                go_wp2_with (first
                  | (go_at_call 53; (with_reducible refine (b_imeet _ _ _ _ wc _ (by assumption)).mono ?_); rintro e w' ⟨rfl, hx'⟩; (try clear c0_0 c0_1 c1_0 c1_1 c2_0 c2_1 c2_2 c2_3 c3_0 c3_1 c3_2 c3_3 c0_f c1_f c2_f c3_f c0_l c1_l c2_l c3_l); have mk := MC1.out _ hx'; have c0_0 : _ = some _ := mk.1.cell 0; have c0_1 : _ = some _ := mk.1.cell 1; have c0_f := mk.1.free; have c0_l := mk.1.lt; have c1_0 : _ = some _ := mk.2.1.cell 0; have c1_1 : _ = some _ := mk.2.1.cell 1; have c1_f := mk.2.1.free; have c1_l := mk.2.1.lt; have c2_0 : _ = some _ := mk.2.2.1.cell 0; have c2_1 : _ = some _ := mk.2.2.1.cell 1; have c2_2 : _ = some _ := mk.2.2.1.cell 2; have c2_3 : _ = some _ := mk.2.2.1.cell 3; have c2_f := mk.2.2.1.free; have c2_l := mk.2.2.1.lt; have c3_0 : _ = some _ := mk.2.2.2.1.cell 0; have c3_1 : _ = some _ := mk.2.2.2.1.cell 1; have c3_2 : _ = some _ := mk.2.2.2.1.cell 2; have c3_3 : _ = some _ := mk.2.2.2.1.cell 3; have c3_f := mk.2.2.2.1.free; have c3_l := mk.2.2.2.1.lt; clear mk)
                  | fail)
                have MS1 : Hid (∀ w2, Ext wc w2 → Ext w ((w2.setCell ⟨b9, 0, none⟩ (.int .i64 (max r.sl (s64 r.ul)))).setCell ⟨b9, 1, none⟩ (.int .i64 (min r.sh (s64 r.uh)))) ∧ Bk ((w2.setCell ⟨b9, 0, none⟩ (.int .i64 (max r.sl (s64 r.ul)))).setCell ⟨b9, 1, none⟩ (.int .i64 (min r.sh (s64 r.uh)))) (b8) #[.int .u64 r.ul, .int .u64 r.uh] 69 ∧ Bk ((w2.setCell ⟨b9, 0, none⟩ (.int .i64 (max r.sl (s64 r.ul)))).setCell ⟨b9, 1, none⟩ (.int .i64 (min r.sh (s64 r.uh)))) (b9) #[.int .i64 (max r.sl (s64 r.ul)), .int .i64 (min r.sh (s64 r.uh))] 72 ∧ Bk ((w2.setCell ⟨b9, 0, none⟩ (.int .i64 (max r.sl (s64 r.ul)))).setCell ⟨b9, 1, none⟩ (.int .i64 (min r.sh (s64 r.uh)))) (w.heap.size) #[.int .u64 r.ul, .int .u64 r.uh, .int .i64 r.sl, .int .i64 r.sh] 24 ∧ Bk ((w2.setCell ⟨b9, 0, none⟩ (.int .i64 (max r.sl (s64 r.ul)))).setCell ⟨b9, 1, none⟩ (.int .i64 (min r.sh (s64 r.uh)))) (w.heap.size + 1) #[.int .u64 0, .int .u64 0, .int .i64 0, .int .i64 0] 24 ∧ True) := hide (fun w2 h => by
                  have mk := MC1.out _ h
                  exact ⟨(Ext.store1 (Ext.store1 (xC1.trans h) (by omega) _) (by omega) _), ((mk.1.off (b9) 0 (.int .i64 (max r.sl (s64 r.ul))) (by omega)).off (b9) 1 (.int .i64 (min r.sh (s64 r.uh))) (by omega)), ((mk.2.1.set 0 (.int .i64 (max r.sl (s64 r.ul)))).set 1 (.int .i64 (min r.sh (s64 r.uh)))), ((mk.2.2.1.off (b9) 0 (.int .i64 (max r.sl (s64 r.ul))) (by omega)).off (b9) 1 (.int .i64 (min r.sh (s64 r.uh))) (by omega)), ((mk.2.2.2.1.off (b9) 0 (.int .i64 (max r.sl (s64 r.ul))) (by omega)).off (b9) 1 (.int .i64 (min r.sh (s64 r.uh))) (by omega)), trivial⟩)
                obtain ⟨V1, hV1⟩ : ∃ V1, V1 = ((w'.setCell ⟨b9, 0, none⟩ (.int .i64 (max r.sl (s64 r.ul)))).setCell ⟨b9, 1, none⟩ (.int .i64 (min r.sh (s64 r.uh)))) := ⟨_, rfl⟩
                rw [← hV1]
                have ms := MS1.out _ hx'
                rw [← hV1] at ms
                have xV1 : Ext w V1 := ms.1
                have ms2 := hide ms.2
                have MV1 := hide (fun w2 (h : Ext V1 w2) => (⟨ms2.out.1.ext h, ms2.out.2.1.ext h, ms2.out.2.2.1.ext h, ms2.out.2.2.2.1.ext h, trivial⟩ : Bk w2 (b8) #[.int .u64 r.ul, .int .u64 r.uh] 69 ∧ Bk w2 (b9) #[.int .i64 (max r.sl (s64 r.ul)), .int .i64 (min r.sh (s64 r.uh))] 72 ∧ Bk w2 (w.heap.size) #[.int .u64 r.ul, .int .u64 r.uh, .int .i64 r.sl, .int .i64 r.sh] 24 ∧ Bk w2 (w.heap.size + 1) #[.int .u64 0, .int .u64 0, .int .i64 0, .int .i64 0] 24 ∧ True))
                clear hV1 ms MS1 hx'
                (try clear c0_0 c0_1 c1_0 c1_1 c2_0 c2_1 c2_2 c2_3 c3_0 c3_1 c3_2 c3_3 c0_f c1_f c2_f c3_f c0_l c1_l c2_l c3_l)
                have hx' : Ext V1 V1 := Ext.refl _
                (try clear c0_0 c0_1 c1_0 c1_1 c2_0 c2_1 c2_2 c2_3 c3_0 c3_1 c3_2 c3_3 c0_f c1_f c2_f c3_f c0_l c1_l c2_l c3_l); have mk := MV1.out _ hx'; have c0_0 : _ = some _ := mk.1.cell 0; have c0_1 : _ = some _ := mk.1.cell 1; have c0_f := mk.1.free; have c0_l := mk.1.lt; have c1_0 : _ = some _ := mk.2.1.cell 0; have c1_1 : _ = some _ := mk.2.1.cell 1; have c1_f := mk.2.1.free; have c1_l := mk.2.1.lt; have c2_0 : _ = some _ := mk.2.2.1.cell 0; have c2_1 : _ = some _ := mk.2.2.1.cell 1; have c2_2 : _ = some _ := mk.2.2.1.cell 2; have c2_3 : _ = some _ := mk.2.2.1.cell 3; have c2_f := mk.2.2.1.free; have c2_l := mk.2.2.1.lt; have c3_0 : _ = some _ := mk.2.2.2.1.cell 0; have c3_1 : _ = some _ := mk.2.2.2.1.cell 1; have c3_2 : _ = some _ := mk.2.2.2.1.cell 2; have c3_3 : _ = some _ := mk.2.2.2.1.cell 3; have c3_f := mk.2.2.2.1.free; have c3_l := mk.2.2.2.1.lt; clear mk
                go_wp2_with (first
                  | (go_at_call 54; (with_reducible refine (b_of _ _ _ _ V1 _ (by assumption)).mono ?_); rintro e w' ⟨rfl, hx'⟩; (try clear c0_0 c0_1 c1_0 c1_1 c2_0 c2_1 c2_2 c2_3 c3_0 c3_1 c3_2 c3_3 c0_f c1_f c2_f c3_f c0_l c1_l c2_l c3_l); have mk := MV1.out _ hx'; have c0_0 : _ = some _ := mk.1.cell 0; have c0_1 : _ = some _ := mk.1.cell 1; have c0_f := mk.1.free; have c0_l := mk.1.lt; have c1_0 : _ = some _ := mk.2.1.cell 0; have c1_1 : _ = some _ := mk.2.1.cell 1; have c1_f := mk.2.1.free; have c1_l := mk.2.1.lt; have c2_0 : _ = some _ := mk.2.2.1.cell 0; have c2_1 : _ = some _ := mk.2.2.1.cell 1; have c2_2 : _ = some _ := mk.2.2.1.cell 2; have c2_3 : _ = some _ := mk.2.2.1.cell 3; have c2_f := mk.2.2.1.free; have c2_l := mk.2.2.1.lt; have c3_0 : _ = some _ := mk.2.2.2.1.cell 0; have c3_1 : _ = some _ := mk.2.2.2.1.cell 1; have c3_2 : _ = some _ := mk.2.2.2.1.cell 2; have c3_3 : _ = some _ := mk.2.2.2.1.cell 3; have c3_f := mk.2.2.2.1.free; have c3_l := mk.2.2.2.1.lt; clear mk)
                  | fail)
                have MS2 : Hid (∀ w2, Ext V1 w2 → Ext w ((((w2.setCell ⟨w.heap.size, 0, none⟩ (.int .u64 r.ul)).setCell ⟨w.heap.size, 1, none⟩ (.int .u64 r.uh)).setCell ⟨w.heap.size, 2, none⟩ (.int .i64 (max r.sl (s64 r.ul)))).setCell ⟨w.heap.size, 3, none⟩ (.int .i64 (min r.sh (s64 r.uh)))) ∧ Bk ((((w2.setCell ⟨w.heap.size, 0, none⟩ (.int .u64 r.ul)).setCell ⟨w.heap.size, 1, none⟩ (.int .u64 r.uh)).setCell ⟨w.heap.size, 2, none⟩ (.int .i64 (max r.sl (s64 r.ul)))).setCell ⟨w.heap.size, 3, none⟩ (.int .i64 (min r.sh (s64 r.uh)))) (b8) #[.int .u64 r.ul, .int .u64 r.uh] 69 ∧ Bk ((((w2.setCell ⟨w.heap.size, 0, none⟩ (.int .u64 r.ul)).setCell ⟨w.heap.size, 1, none⟩ (.int .u64 r.uh)).setCell ⟨w.heap.size, 2, none⟩ (.int .i64 (max r.sl (s64 r.ul)))).setCell ⟨w.heap.size, 3, none⟩ (.int .i64 (min r.sh (s64 r.uh)))) (b9) #[.int .i64 (max r.sl (s64 r.ul)), .int .i64 (min r.sh (s64 r.uh))] 72 ∧ Bk ((((w2.setCell ⟨w.heap.size, 0, none⟩ (.int .u64 r.ul)).setCell ⟨w.heap.size, 1, none⟩ (.int .u64 r.uh)).setCell ⟨w.heap.size, 2, none⟩ (.int .i64 (max r.sl (s64 r.ul)))).setCell ⟨w.heap.size, 3, none⟩ (.int .i64 (min r.sh (s64 r.uh)))) (w.heap.size) #[.int .u64 r.ul, .int .u64 r.uh, .int .i64 (max r.sl (s64 r.ul)), .int .i64 (min r.sh (s64 r.uh))] 24 ∧ Bk ((((w2.setCell ⟨w.heap.size, 0, none⟩ (.int .u64 r.ul)).setCell ⟨w.heap.size, 1, none⟩ (.int .u64 r.uh)).setCell ⟨w.heap.size, 2, none⟩ (.int .i64 (max r.sl (s64 r.ul)))).setCell ⟨w.heap.size, 3, none⟩ (.int .i64 (min r.sh (s64 r.uh)))) (w.heap.size + 1) #[.int .u64 0, .int .u64 0, .int .i64 0, .int .i64 0] 24 ∧ True) := hide (fun w2 h => by
                  have mk := MV1.out _ h
                  exact ⟨(Ext.store1 (Ext.store1 (Ext.store1 (Ext.store1 (xV1.trans h) (by omega) _) (by omega) _) (by omega) _) (by omega) _), ((((mk.1.off (w.heap.size) 0 (.int .u64 r.ul) (by omega)).off (w.heap.size) 1 (.int .u64 r.uh) (by omega)).off (w.heap.size) 2 (.int .i64 (max r.sl (s64 r.ul))) (by omega)).off (w.heap.size) 3 (.int .i64 (min r.sh (s64 r.uh))) (by omega)), ((((mk.2.1.off (w.heap.size) 0 (.int .u64 r.ul) (by omega)).off (w.heap.size) 1 (.int .u64 r.uh) (by omega)).off (w.heap.size) 2 (.int .i64 (max r.sl (s64 r.ul))) (by omega)).off (w.heap.size) 3 (.int .i64 (min r.sh (s64 r.uh))) (by omega)), ((((mk.2.2.1.set 0 (.int .u64 r.ul)).set 1 (.int .u64 r.uh)).set 2 (.int .i64 (max r.sl (s64 r.ul)))).set 3 (.int .i64 (min r.sh (s64 r.uh)))), ((((mk.2.2.2.1.off (w.heap.size) 0 (.int .u64 r.ul) (by omega)).off (w.heap.size) 1 (.int .u64 r.uh) (by omega)).off (w.heap.size) 2 (.int .i64 (max r.sl (s64 r.ul))) (by omega)).off (w.heap.size) 3 (.int .i64 (min r.sh (s64 r.uh))) (by omega)), trivial⟩)
                obtain ⟨V2, hV2⟩ : ∃ V2, V2 = ((((w'.setCell ⟨w.heap.size, 0, none⟩ (.int .u64 r.ul)).setCell ⟨w.heap.size, 1, none⟩ (.int .u64 r.uh)).setCell ⟨w.heap.size, 2, none⟩ (.int .i64 (max r.sl (s64 r.ul)))).setCell ⟨w.heap.size, 3, none⟩ (.int .i64 (min r.sh (s64 r.uh)))) := ⟨_, rfl⟩
                rw [← hV2]
                have ms := MS2.out _ hx'
                rw [← hV2] at ms
                have xV2 : Ext w V2 := ms.1
                have ms2 := hide ms.2
                have MV2 := hide (fun w2 (h : Ext V2 w2) => (⟨ms2.out.1.ext h, ms2.out.2.1.ext h, ms2.out.2.2.1.ext h, ms2.out.2.2.2.1.ext h, trivial⟩ : Bk w2 (b8) #[.int .u64 r.ul, .int .u64 r.uh] 69 ∧ Bk w2 (b9) #[.int .i64 (max r.sl (s64 r.ul)), .int .i64 (min r.sh (s64 r.uh))] 72 ∧ Bk w2 (w.heap.size) #[.int .u64 r.ul, .int .u64 r.uh, .int .i64 (max r.sl (s64 r.ul)), .int .i64 (min r.sh (s64 r.uh))] 24 ∧ Bk w2 (w.heap.size + 1) #[.int .u64 0, .int .u64 0, .int .i64 0, .int .i64 0] 24 ∧ True))
                clear hV2 ms MS2 hx'
                (try clear c0_0 c0_1 c1_0 c1_1 c2_0 c2_1 c2_2 c2_3 c3_0 c3_1 c3_2 c3_3 c0_f c1_f c2_f c3_f c0_l c1_l c2_l c3_l)
                have hx' : Ext V2 V2 := Ext.refl _
                (try clear c0_0 c0_1 c1_0 c1_1 c2_0 c2_1 c2_2 c2_3 c3_0 c3_1 c3_2 c3_3 c0_f c1_f c2_f c3_f c0_l c1_l c2_l c3_l); have mk := MV2.out _ hx'; have c0_0 : _ = some _ := mk.1.cell 0; have c0_1 : _ = some _ := mk.1.cell 1; have c0_f := mk.1.free; have c0_l := mk.1.lt; have c1_0 : _ = some _ := mk.2.1.cell 0; have c1_1 : _ = some _ := mk.2.1.cell 1; have c1_f := mk.2.1.free; have c1_l := mk.2.1.lt; have c2_0 : _ = some _ := mk.2.2.1.cell 0; have c2_1 : _ = some _ := mk.2.2.1.cell 1; have c2_2 : _ = some _ := mk.2.2.1.cell 2; have c2_3 : _ = some _ := mk.2.2.1.cell 3; have c2_f := mk.2.2.1.free; have c2_l := mk.2.2.1.lt; have c3_0 : _ = some _ := mk.2.2.2.1.cell 0; have c3_1 : _ = some _ := mk.2.2.2.1.cell 1; have c3_2 : _ = some _ := mk.2.2.2.1.cell 2; have c3_3 : _ = some _ := mk.2.2.2.1.cell 3; have c3_f := mk.2.2.2.1.free; have c3_l := mk.2.2.2.1.lt; clear mk
                go_wp2_with fail
                go_roundw
                case rel => exact ⟨3, by go_num, by omega, hide ⟨xV2, ⟨by rw [HE.out]; exact (MV2.out _ (Ext.refl _)).2.2.1, (MV2.out _ (Ext.refl _)).2.2.2.1⟩, HN.out⟩⟩
                case measure => simp [intOf]
            · as_aux_lemma =>
                have e : bnst 3 a = (⟨r.ul, r.uh, r.sl, r.sh⟩ : Rg) := nst_s2 HR.out (sgn0 wr0 hb)
                have HE := hide e
                clear e
                go_wp2_with (first
                  | (go_at_call 54; (with_reducible refine (b_of _ _ _ _ wc _ (by assumption)).mono ?_); rintro e w' ⟨rfl, hx'⟩; (try clear c0_0 c0_1 c1_0 c1_1 c2_0 c2_1 c2_2 c2_3 c3_0 c3_1 c3_2 c3_3 c0_f c1_f c2_f c3_f c0_l c1_l c2_l c3_l); have mk := MC1.out _ hx'; have c0_0 : _ = some _ := mk.1.cell 0; have c0_1 : _ = some _ := mk.1.cell 1; have c0_f := mk.1.free; have c0_l := mk.1.lt; have c1_0 : _ = some _ := mk.2.1.cell 0; have c1_1 : _ = some _ := mk.2.1.cell 1; have c1_f := mk.2.1.free; have c1_l := mk.2.1.lt; have c2_0 : _ = some _ := mk.2.2.1.cell 0; have c2_1 : _ = some _ := mk.2.2.1.cell 1; have c2_2 : _ = some _ := mk.2.2.1.cell 2; have c2_3 : _ = some _ := mk.2.2.1.cell 3; have c2_f := mk.2.2.1.free; have c2_l := mk.2.2.1.lt; have c3_0 : _ = some _ := mk.2.2.2.1.cell 0; have c3_1 : _ = some _ := mk.2.2.2.1.cell 1; have c3_2 : _ = some _ := mk.2.2.2.1.cell 2; have c3_3 : _ = some _ := mk.2.2.2.1.cell 3; have c3_f := mk.2.2.2.1.free; have c3_l := mk.2.2.2.1.lt; clear mk)
                  | fail)
                have MS1 : Hid (∀ w2, Ext wc w2 → Ext w ((((w2.setCell ⟨w.heap.size, 0, none⟩ (.int .u64 r.ul)).setCell ⟨w.heap.size, 1, none⟩ (.int .u64 r.uh)).setCell ⟨w.heap.size, 2, none⟩ (.int .i64 r.sl)).setCell ⟨w.heap.size, 3, none⟩ (.int .i64 r.sh)) ∧ Bk ((((w2.setCell ⟨w.heap.size, 0, none⟩ (.int .u64 r.ul)).setCell ⟨w.heap.size, 1, none⟩ (.int .u64 r.uh)).setCell ⟨w.heap.size, 2, none⟩ (.int .i64 r.sl)).setCell ⟨w.heap.size, 3, none⟩ (.int .i64 r.sh)) (b8) #[.int .u64 r.ul, .int .u64 r.uh] 69 ∧ Bk ((((w2.setCell ⟨w.heap.size, 0, none⟩ (.int .u64 r.ul)).setCell ⟨w.heap.size, 1, none⟩ (.int .u64 r.uh)).setCell ⟨w.heap.size, 2, none⟩ (.int .i64 r.sl)).setCell ⟨w.heap.size, 3, none⟩ (.int .i64 r.sh)) (b9) #[.int .i64 r.sl, .int .i64 r.sh] 72 ∧ Bk ((((w2.setCell ⟨w.heap.size, 0, none⟩ (.int .u64 r.ul)).setCell ⟨w.heap.size, 1, none⟩ (.int .u64 r.uh)).setCell ⟨w.heap.size, 2, none⟩ (.int .i64 r.sl)).setCell ⟨w.heap.size, 3, none⟩ (.int .i64 r.sh)) (w.heap.size) #[.int .u64 r.ul, .int .u64 r.uh, .int .i64 r.sl, .int .i64 r.sh] 24 ∧ Bk ((((w2.setCell ⟨w.heap.size, 0, none⟩ (.int .u64 r.ul)).setCell ⟨w.heap.size, 1, none⟩ (.int .u64 r.uh)).setCell ⟨w.heap.size, 2, none⟩ (.int .i64 r.sl)).setCell ⟨w.heap.size, 3, none⟩ (.int .i64 r.sh)) (w.heap.size + 1) #[.int .u64 0, .int .u64 0, .int .i64 0, .int .i64 0] 24 ∧ True) := hide (fun w2 h => by
                  have mk := MC1.out _ h
                  exact ⟨(Ext.store1 (Ext.store1 (Ext.store1 (Ext.store1 (xC1.trans h) (by omega) _) (by omega) _) (by omega) _) (by omega) _), ((((mk.1.off (w.heap.size) 0 (.int .u64 r.ul) (by omega)).off (w.heap.size) 1 (.int .u64 r.uh) (by omega)).off (w.heap.size) 2 (.int .i64 r.sl) (by omega)).off (w.heap.size) 3 (.int .i64 r.sh) (by omega)), ((((mk.2.1.off (w.heap.size) 0 (.int .u64 r.ul) (by omega)).off (w.heap.size) 1 (.int .u64 r.uh) (by omega)).off (w.heap.size) 2 (.int .i64 r.sl) (by omega)).off (w.heap.size) 3 (.int .i64 r.sh) (by omega)), ((((mk.2.2.1.set 0 (.int .u64 r.ul)).set 1 (.int .u64 r.uh)).set 2 (.int .i64 r.sl)).set 3 (.int .i64 r.sh)), ((((mk.2.2.2.1.off (w.heap.size) 0 (.int .u64 r.ul) (by omega)).off (w.heap.size) 1 (.int .u64 r.uh) (by omega)).off (w.heap.size) 2 (.int .i64 r.sl) (by omega)).off (w.heap.size) 3 (.int .i64 r.sh) (by omega)), trivial⟩)
                obtain ⟨V1, hV1⟩ : ∃ V1, V1 = ((((w'.setCell ⟨w.heap.size, 0, none⟩ (.int .u64 r.ul)).setCell ⟨w.heap.size, 1, none⟩ (.int .u64 r.uh)).setCell ⟨w.heap.size, 2, none⟩ (.int .i64 r.sl)).setCell ⟨w.heap.size, 3, none⟩ (.int .i64 r.sh)) := ⟨_, rfl⟩
                rw [← hV1]
                have ms := MS1.out _ hx'
                rw [← hV1] at ms
                have xV1 : Ext w V1 := ms.1
                have ms2 := hide ms.2
                have MV1 := hide (fun w2 (h : Ext V1 w2) => (⟨ms2.out.1.ext h, ms2.out.2.1.ext h, ms2.out.2.2.1.ext h, ms2.out.2.2.2.1.ext h, trivial⟩ : Bk w2 (b8) #[.int .u64 r.ul, .int .u64 r.uh] 69 ∧ Bk w2 (b9) #[.int .i64 r.sl, .int .i64 r.sh] 72 ∧ Bk w2 (w.heap.size) #[.int .u64 r.ul, .int .u64 r.uh, .int .i64 r.sl, .int .i64 r.sh] 24 ∧ Bk w2 (w.heap.size + 1) #[.int .u64 0, .int .u64 0, .int .i64 0, .int .i64 0] 24 ∧ True))
                clear hV1 ms MS1 hx'
                (try clear c0_0 c0_1 c1_0 c1_1 c2_0 c2_1 c2_2 c2_3 c3_0 c3_1 c3_2 c3_3 c0_f c1_f c2_f c3_f c0_l c1_l c2_l c3_l)
                have hx' : Ext V1 V1 := Ext.refl _
                (try clear c0_0 c0_1 c1_0 c1_1 c2_0 c2_1 c2_2 c2_3 c3_0 c3_1 c3_2 c3_3 c0_f c1_f c2_f c3_f c0_l c1_l c2_l c3_l); have mk := MV1.out _ hx'; have c0_0 : _ = some _ := mk.1.cell 0; have c0_1 : _ = some _ := mk.1.cell 1; have c0_f := mk.1.free; have c0_l := mk.1.lt; have c1_0 : _ = some _ := mk.2.1.cell 0; have c1_1 : _ = some _ := mk.2.1.cell 1; have c1_f := mk.2.1.free; have c1_l := mk.2.1.lt; have c2_0 : _ = some _ := mk.2.2.1.cell 0; have c2_1 : _ = some _ := mk.2.2.1.cell 1; have c2_2 : _ = some _ := mk.2.2.1.cell 2; have c2_3 : _ = some _ := mk.2.2.1.cell 3; have c2_f := mk.2.2.1.free; have c2_l := mk.2.2.1.lt; have c3_0 : _ = some _ := mk.2.2.2.1.cell 0; have c3_1 : _ = some _ := mk.2.2.2.1.cell 1; have c3_2 : _ = some _ := mk.2.2.2.1.cell 2; have c3_3 : _ = some _ := mk.2.2.2.1.cell 3; have c3_f := mk.2.2.2.1.free; have c3_l := mk.2.2.2.1.lt; clear mk
                go_wp2_with fail
                go_roundw
                case rel => exact ⟨3, by go_num, by omega, hide ⟨xV1, ⟨by rw [HE.out]; exact (MV1.out _ (Ext.refl _)).2.2.1, (MV1.out _ (Ext.refl _)).2.2.2.1⟩, HN.out⟩⟩
                case measure => simp [intOf]
        · as_aux_lemma =>
            have e : bnok a = true := (bnok_iff a).2 (fun j hj => HN.out j (by omega))
            have e2 : bnar a = r := by unfold bnar; rw [if_pos e]; exact HR.out
            have E1 := hide e
            have E2 := hide e2
            clear e e2
            go_wp2_with fail
            exact bodyPost_ret (v := .tuple #[.agg #[.int .u64 r.ul, .int .u64 r.uh, .int .i64 r.sl, .int .i64 r.sh], .bool true]) (by simp [results, Try.results11, go_sem, c3_0, c3_1, c3_2, c3_3, c3_l, Nat.ne_of_lt c3_l, Nat.ne_of_gt c3_l] <;> (first | exact ⟨rfl, rfl⟩ | exact ⟨rfl, rfl, rfl, rfl⟩ | exact ⟨⟨rfl, rfl, rfl, rfl⟩, rfl⟩ | exact ⟨rfl, rfl, rfl, rfl, rfl⟩ | rfl)) rfl ⟨by rw [E1.out, E2.out], by (refine hx.trans ?_; with_reducible repeat (first | assumption | exact xC1.trans hx' | exact xC1.trans (by assumption) | apply Ext.alloc | apply Ext.drew | (refine Ext.store1 ?_ (by omega) _)))⟩
end Go.Proofs.Ytcngfmhhaleoaaa
