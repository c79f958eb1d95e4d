/- The walk of the law TraceChain. -/
import Derived.Test.YteheidiiigjglaaTrG
namespace Go.Proofs.Yteheidiiigjglaa
open Go.RowKit

theorem pre_trans {α : Type} [DecidableEq α] {a b c : List α} (h1 : pre a b = true) (h2 : pre b c = true) : pre a c = true := by
  simp only [pre, Bool.and_eq_true, decide_eq_true_eq] at h1 h2 ⊢
  refine ⟨by omega, ?_⟩
  rw [h1.2]
  simp only [List.length_take]
  rw [Nat.min_eq_left h1.1]
  have := congrArg (List.take a.length) h2.2
  rw [List.take_take, Nat.min_eq_left h1.1] at this
  exact this
theorem pre_self {α : Type} [DecidableEq α] (a : List α) : pre a a = true := by simp [pre]
theorem chain_a {a b c : Oc} : (((a.kind == 0) && pre a.tr b.tr) && ((b.kind == 0) && pre b.tr c.tr) && !((a.kind == 0) && pre a.tr c.tr)) = false := by
  cases h1 : (a.kind == 0) <;> cases h2 : pre a.tr b.tr <;> cases h3 : pre b.tr c.tr <;> simp
  intro; exact pre_trans h2 h3
theorem chain_b {a b c : Oc} : (((a.kind == 0) && pre a.tr b.tr) && zlike b c && !((a.kind == 0) && pre a.tr c.tr)) = false := by
  cases h1 : (a.kind == 0) <;> cases h2 : pre a.tr b.tr <;> cases h3 : zlike b c <;> simp
  have : b.tr = c.tr := by
    simp [zlike] at h3
    exact h3.2.1
  rw [← this]; exact h2
def zbec (a b : Oc) : Bool := (a.kind == 0) && pre a.tr b.tr
theorem Becomes_z (o1 o2 : Oc) (v1 v2 : Value) (W w : World) (hx : Ext W w) (h1 : OcV w v1 o1) (h2 : OcV w v2 o2) :
    Calls Try.prog 21 #[v1, v2] w fun e w' => e = .returned (.bool (zbec o1 o2)) ∧ Ext W w' := Becomes_any o1 o2 v1 v2 W w hx h1 h2
theorem chain1 {a b c : Oc} (h1 : zbec a b = true) (h2 : zbec b c = true) : zbec a c = true := by
  simp only [zbec, Bool.and_eq_true] at h1 h2 ⊢
  exact ⟨h1.1, pre_trans h1.2 h2.2⟩
theorem chain2 {a b c : Oc} (h1 : zbec a b = true) (h2 : zlike b c = true) : zbec a c = true := by
  simp [zlike] at h2
  simp only [zbec] at h1 ⊢
  rw [← h2.2.1]; exact h1
theorem chain3 (a b : Oc) : zbec ⟨0, a.r0, a.ctx, a.tr, a.left⟩ ⟨0, a.r0, a.ctx, a.tr, a.left⟩ = true ∧ (zlike ⟨0, a.r0, a.ctx, a.tr, a.left⟩ b = true → zbec ⟨0, a.r0, a.ctx, a.tr, a.left⟩ b = true) := by
  constructor
  · simp [zbec, pre_self]
  · intro h
    simp [zlike] at h
    simp [zbec, ← h.2, pre_self]
theorem Box5.set0 {w : World} {b : Nat} {v0 v1 v2 v3 v4 u : Value} (h : Box5 w b v0 v1 v2 v3 v4) : Box5 (w.setCell ⟨b, 0, none⟩ u) b u v1 v2 v3 v4 := by
  obtain ⟨h0, h1, h2, h3, h4⟩ := h
  refine ⟨?_, ?_, ?_, ?_, ?_⟩ <;> simp [go_sem, h0, h1, h2, h3, h4]
theorem Box5.far {w : World} {b c : Nat} {v0 v1 v2 v3 v4 u : Value} (h : Box5 w b v0 v1 v2 v3 v4) (hne : b ≠ c) : Box5 (w.setCell ⟨c, 0, none⟩ u) b v0 v1 v2 v3 v4 := by
  have e : ∀ k, (w.setCell ⟨c, 0, none⟩ u).cell? ⟨b, k, none⟩ = w.cell? ⟨b, k, none⟩ := fun k => World.cell?_of_block (w := w) (Below.heap_setCell w ⟨c, 0, none⟩ u b hne)
  exact ⟨(e 0).trans h.1, (e 1).trans h.2.1, (e 2).trans h.2.2.1, (e 3).trans h.2.2.2.1, (e 4).trans h.2.2.2.2⟩

set_option maxRecDepth 100000 in
set_option maxHeartbeats 8000000 in
theorem chain_walk (a b c : Oc) (va vb vc : Value) (W : World) (ha : OcV W va a) (hb : OcV W vb b) (hc : OcV W vc c) :
    Calls Try.prog 5 #[va, vb, vc] W fun e W' => e = .returned (.bool true) ∧ Ext W W' := by
  obtain ⟨ac, at', rfl, ha1, ha2, ha3⟩ := ha
  obtain ⟨bc, bt, rfl, hb1, hb2, hb3⟩ := hb
  obtain ⟨cc, ct, rfl, hc1, hc2, hc3⟩ := hc
  have hA : ∀ k w, Ext W w → OcV w (.agg #[.int .i8 k, .int .u64 a.r0, ac, at', .int .i64 a.left]) ⟨k, a.r0, a.ctx, a.tr, a.left⟩ := fun k w h => ⟨ac, at', rfl, ha1.ext h, ha2.ext h, ha3⟩
  have hB : ∀ w, Ext W w → OcV w (.agg #[.int .i8 b.kind, .int .u64 b.r0, bc, bt, .int .i64 b.left]) b := fun w h => ⟨bc, bt, rfl, hb1.ext h, hb2.ext h, hb3⟩
  have hC : ∀ w, Ext W w → OcV w (.agg #[.int .i8 c.kind, .int .u64 c.r0, cc, ct, .int .i64 c.left]) c := fun w h => ⟨cc, ct, rfl, hc1.ext h, hc2.ext h, hc3⟩
  obtain ⟨W1, hW1⟩ : ∃ W1, W1 = W.alloc (.cells #[.int .i8 a.kind, .int .u64 a.r0, ac, at', .int .i64 a.left] 31) := ⟨_, rfl⟩
  obtain ⟨W2, hW2⟩ : ∃ W2, W2 = W1.alloc (.cells #[.int .i8 b.kind, .int .u64 b.r0, bc, bt, .int .i64 b.left] 31) := ⟨_, rfl⟩
  obtain ⟨W3, hW3⟩ : ∃ W3, W3 = W2.alloc (.cells #[.int .i8 c.kind, .int .u64 c.r0, cc, ct, .int .i64 c.left] 31) := ⟨_, rfl⟩
  have s1 : W1.heap.size = W.heap.size + 1 := by rw [hW1]; simp
  have s2 : W2.heap.size = W.heap.size + 1 + 1 := by rw [hW2]; simp [s1]
  have x1 : Ext W W1 := by rw [hW1]; exact (Ext.refl W).alloc _
  have x12 : Ext W1 W2 := by rw [hW2]; exact (Ext.refl W1).alloc _
  have x23 : Ext W2 W3 := by rw [hW3]; exact (Ext.refl W2).alloc _
  have BA : Box5 W3 W.heap.size (.int .i8 a.kind) (.int .u64 a.r0) ac at' (.int .i64 a.left) := by
    have := Box5.new W (.int .i8 a.kind) (.int .u64 a.r0) ac at' (.int .i64 a.left) 31
    rw [← hW1] at this
    exact this.ext (x12.trans x23)
  have BB : Box5 W3 (W.heap.size + 1) (.int .i8 b.kind) (.int .u64 b.r0) bc bt (.int .i64 b.left) := by
    have := Box5.new W1 (.int .i8 b.kind) (.int .u64 b.r0) bc bt (.int .i64 b.left) 31
    rw [← hW2, s1] at this
    exact this.ext x23
  have BC : Box5 W3 (W.heap.size + 1 + 1) (.int .i8 c.kind) (.int .u64 c.r0) cc ct (.int .i64 c.left) := by
    have := Box5.new W2 (.int .i8 c.kind) (.int .u64 c.r0) cc ct (.int .i64 c.left) 31
    rw [← hW3, s2] at this
    exact this
  have x03 : Ext W W3 := x1.trans (x12.trans x23)
  have fz3 : W3.frozen? ⟨W.heap.size, 0, none⟩ = false := by rw [hW3, hW2, hW1]; simp [go_sem]
  have lt3 : (⟨W.heap.size, 0, none⟩ : Addr).block < W3.heap.size := by have := Below.size x12; have := Below.size x23; show W.heap.size < _; omega
  have hA0 : ∀ w, Ext W w → OcV w (.agg #[.int .i8 a.kind, .int .u64 a.r0, ac, at', .int .i64 a.left]) a := fun w h => hA a.kind w h
  have HA := hide hA0
  have HZ := hide hA
  have HB := hide hB
  have HC := hide hC
  have HBA := hide BA
  have HBB := hide BB
  have HBC := hide BC
  have FZ := hide fz3
  have HLT := hide lt3
  have hx : Ext W3 W3 := Ext.refl _
  clear hA hA0 hB hC BA BB BC fz3 lt3 s1 s2 x1 x12 x23 ha1 ha2 ha3 hb1 hb2 hb3 hc1 hc2 hc3
  subst hW1
  subst hW2
  have hW3' := hide hW3
  by_cases hg : zgreat a = true ∨ (zgreat a = false ∧ zgreat b = true) ∨ (zgreat a = false ∧ zgreat b = false ∧ zgreat c = true)
  · rcases hg with g1 | ⟨g1, g2⟩ | ⟨g1, g2, g3⟩
    all_goals
      go_enter Try.func5, Try.ntmps5
      go_wp2_with fail
      rw [← hW3]
      clear hW3
      go_wp2_with (first
        | (go_at_call 20; (with_reducible refine (Great_any a _ W3 _ (by assumption) (HA.out _ (x03.trans (by assumption)))).mono ?_); rintro e w' ⟨rfl, hx'⟩; (try clear p0 p1 p2 p3 p4 q0 q1 q2 q3 q4 r0 r1 r2 r3 r4 fz); obtain ⟨p0, p1, p2, p3, p4⟩ := HBA.out.ext hx'; obtain ⟨q0, q1, q2, q3, q4⟩ := HBB.out.ext hx'; obtain ⟨r0, r1, r2, r3, r4⟩ := HBC.out.ext hx'; have fz := (Below.frozen hx' HLT.out).trans FZ.out)
        | (go_at_call 20; (with_reducible refine (Great_any b _ W3 _ (by assumption) (HB.out _ (x03.trans (by assumption)))).mono ?_); rintro e w' ⟨rfl, hx'⟩; (try clear p0 p1 p2 p3 p4 q0 q1 q2 q3 q4 r0 r1 r2 r3 r4 fz); obtain ⟨p0, p1, p2, p3, p4⟩ := HBA.out.ext hx'; obtain ⟨q0, q1, q2, q3, q4⟩ := HBB.out.ext hx'; obtain ⟨r0, r1, r2, r3, r4⟩ := HBC.out.ext hx'; have fz := (Below.frozen hx' HLT.out).trans FZ.out)
        | (go_at_call 20; (with_reducible refine (Great_any c _ W3 _ (by assumption) (HC.out _ (x03.trans (by assumption)))).mono ?_); rintro e w' ⟨rfl, hx'⟩; (try clear p0 p1 p2 p3 p4 q0 q1 q2 q3 q4 r0 r1 r2 r3 r4 fz); obtain ⟨p0, p1, p2, p3, p4⟩ := HBA.out.ext hx'; obtain ⟨q0, q1, q2, q3, q4⟩ := HBB.out.ext hx'; obtain ⟨r0, r1, r2, r3, r4⟩ := HBC.out.ext hx'; have fz := (Below.frozen hx' HLT.out).trans FZ.out)
        | (go_at_call 21; (with_reducible refine (Becomes_z a b _ _ W3 _ (by assumption) (HA.out _ (x03.trans (by assumption))) (HB.out _ (x03.trans (by assumption)))).mono ?_); rintro e w' ⟨rfl, hx'⟩; (try clear p0 p1 p2 p3 p4 q0 q1 q2 q3 q4 r0 r1 r2 r3 r4 fz); obtain ⟨p0, p1, p2, p3, p4⟩ := HBA.out.ext hx'; obtain ⟨q0, q1, q2, q3, q4⟩ := HBB.out.ext hx'; obtain ⟨r0, r1, r2, r3, r4⟩ := HBC.out.ext hx'; have fz := (Below.frozen hx' HLT.out).trans FZ.out)
        | (go_at_call 21; (with_reducible refine (Becomes_z b c _ _ W3 _ (by assumption) (HB.out _ (x03.trans (by assumption))) (HC.out _ (x03.trans (by assumption)))).mono ?_); rintro e w' ⟨rfl, hx'⟩; (try clear p0 p1 p2 p3 p4 q0 q1 q2 q3 q4 r0 r1 r2 r3 r4 fz); obtain ⟨p0, p1, p2, p3, p4⟩ := HBA.out.ext hx'; obtain ⟨q0, q1, q2, q3, q4⟩ := HBB.out.ext hx'; obtain ⟨r0, r1, r2, r3, r4⟩ := HBC.out.ext hx'; have fz := (Below.frozen hx' HLT.out).trans FZ.out)
        | (go_at_call 21; (with_reducible refine (Becomes_z a c _ _ W3 _ (by assumption) (HA.out _ (x03.trans (by assumption))) (HC.out _ (x03.trans (by assumption)))).mono ?_); rintro e w' ⟨rfl, hx'⟩; (try clear p0 p1 p2 p3 p4 q0 q1 q2 q3 q4 r0 r1 r2 r3 r4 fz); obtain ⟨p0, p1, p2, p3, p4⟩ := HBA.out.ext hx'; obtain ⟨q0, q1, q2, q3, q4⟩ := HBB.out.ext hx'; obtain ⟨r0, r1, r2, r3, r4⟩ := HBC.out.ext hx'; have fz := (Below.frozen hx' HLT.out).trans FZ.out)
        | (go_at_call 22; (with_reducible refine (Like_any b c _ _ W3 _ (by assumption) (HB.out _ (x03.trans (by assumption))) (HC.out _ (x03.trans (by assumption)))).mono ?_); rintro e w' ⟨rfl, hx'⟩; (try clear p0 p1 p2 p3 p4 q0 q1 q2 q3 q4 r0 r1 r2 r3 r4 fz); obtain ⟨p0, p1, p2, p3, p4⟩ := HBA.out.ext hx'; obtain ⟨q0, q1, q2, q3, q4⟩ := HBB.out.ext hx'; obtain ⟨r0, r1, r2, r3, r4⟩ := HBC.out.ext hx'; have fz := (Below.frozen hx' HLT.out).trans FZ.out)
        | (go_at_call 16; refine (twakes_any W3 _ (by assumption)).mono ?_; rintro e w' ⟨rfl, hx'⟩)
        | fail)
      go_ret
      exact ⟨rfl, x03.trans (by assumption)⟩
  · have ng : zgreat a = false ∧ zgreat b = false ∧ zgreat c = false := by
      cases h1 : zgreat a <;> cases h2 : zgreat b <;> cases h3 : zgreat c <;> simp [h1, h2, h3] at hg ⊢
    obtain ⟨g1, g2, g3⟩ := ng
    clear hg
    obtain ⟨e1, e2⟩ := chain3 a b
    have leaf : zbec a b = false ∨ (zbec a b = true ∧ zbec b c = true ∧ zbec a c = true ∧ zlike b c = true) ∨ (zbec a b = true ∧ zbec b c = true ∧ zbec a c = true ∧ zlike b c = false) ∨ (zbec a b = true ∧ zbec b c = false ∧ zlike b c = true ∧ zbec a c = true) ∨ (zbec a b = true ∧ zbec b c = false ∧ zlike b c = false) := by
      cases h1 : zbec a b
      · exact .inl rfl
      · cases h2 : zbec b c
        · cases h3 : zlike b c
          · simp
          · simp [chain2 h1 h3]
        · cases h3 : zlike b c
          · simp [chain1 h1 h2]
          · simp [chain1 h1 h2]
    have last : zlike ⟨0, a.r0, a.ctx, a.tr, a.left⟩ b = false ∨ (zlike ⟨0, a.r0, a.ctx, a.tr, a.left⟩ b = true ∧ zbec ⟨0, a.r0, a.ctx, a.tr, a.left⟩ b = true) := by
      cases h : zlike ⟨0, a.r0, a.ctx, a.tr, a.left⟩ b
      · exact .inl rfl
      · exact .inr ⟨rfl, e2 h⟩
    have HLAST := hide last
    clear last e2
    have E1 := hide e1
    clear e1
    rcases leaf with l1 | ⟨l1, l2, l3, l4⟩ | ⟨l1, l2, l3, l4⟩ | ⟨l1, l2, l3, l4⟩ | ⟨l1, l2, l3⟩
    all_goals
      go_enter Try.func5, Try.ntmps5
      go_wp2_with fail
      rw [← hW3]
      clear hW3
      go_wp2_with (first
        | (go_at_call 20; (with_reducible refine (Great_any a _ W3 _ (by assumption) (HA.out _ (x03.trans (by assumption)))).mono ?_); rintro e w' ⟨rfl, hx'⟩; (try clear p0 p1 p2 p3 p4 q0 q1 q2 q3 q4 r0 r1 r2 r3 r4 fz); obtain ⟨p0, p1, p2, p3, p4⟩ := HBA.out.ext hx'; obtain ⟨q0, q1, q2, q3, q4⟩ := HBB.out.ext hx'; obtain ⟨r0, r1, r2, r3, r4⟩ := HBC.out.ext hx'; have fz := (Below.frozen hx' HLT.out).trans FZ.out)
        | (go_at_call 20; (with_reducible refine (Great_any b _ W3 _ (by assumption) (HB.out _ (x03.trans (by assumption)))).mono ?_); rintro e w' ⟨rfl, hx'⟩; (try clear p0 p1 p2 p3 p4 q0 q1 q2 q3 q4 r0 r1 r2 r3 r4 fz); obtain ⟨p0, p1, p2, p3, p4⟩ := HBA.out.ext hx'; obtain ⟨q0, q1, q2, q3, q4⟩ := HBB.out.ext hx'; obtain ⟨r0, r1, r2, r3, r4⟩ := HBC.out.ext hx'; have fz := (Below.frozen hx' HLT.out).trans FZ.out)
        | (go_at_call 20; (with_reducible refine (Great_any c _ W3 _ (by assumption) (HC.out _ (x03.trans (by assumption)))).mono ?_); rintro e w' ⟨rfl, hx'⟩; (try clear p0 p1 p2 p3 p4 q0 q1 q2 q3 q4 r0 r1 r2 r3 r4 fz); obtain ⟨p0, p1, p2, p3, p4⟩ := HBA.out.ext hx'; obtain ⟨q0, q1, q2, q3, q4⟩ := HBB.out.ext hx'; obtain ⟨r0, r1, r2, r3, r4⟩ := HBC.out.ext hx'; have fz := (Below.frozen hx' HLT.out).trans FZ.out)
        | (go_at_call 21; (with_reducible refine (Becomes_z a b _ _ W3 _ (by assumption) (HA.out _ (x03.trans (by assumption))) (HB.out _ (x03.trans (by assumption)))).mono ?_); rintro e w' ⟨rfl, hx'⟩; (try clear p0 p1 p2 p3 p4 q0 q1 q2 q3 q4 r0 r1 r2 r3 r4 fz); obtain ⟨p0, p1, p2, p3, p4⟩ := HBA.out.ext hx'; obtain ⟨q0, q1, q2, q3, q4⟩ := HBB.out.ext hx'; obtain ⟨r0, r1, r2, r3, r4⟩ := HBC.out.ext hx'; have fz := (Below.frozen hx' HLT.out).trans FZ.out)
        | (go_at_call 21; (with_reducible refine (Becomes_z b c _ _ W3 _ (by assumption) (HB.out _ (x03.trans (by assumption))) (HC.out _ (x03.trans (by assumption)))).mono ?_); rintro e w' ⟨rfl, hx'⟩; (try clear p0 p1 p2 p3 p4 q0 q1 q2 q3 q4 r0 r1 r2 r3 r4 fz); obtain ⟨p0, p1, p2, p3, p4⟩ := HBA.out.ext hx'; obtain ⟨q0, q1, q2, q3, q4⟩ := HBB.out.ext hx'; obtain ⟨r0, r1, r2, r3, r4⟩ := HBC.out.ext hx'; have fz := (Below.frozen hx' HLT.out).trans FZ.out)
        | (go_at_call 21; (with_reducible refine (Becomes_z a c _ _ W3 _ (by assumption) (HA.out _ (x03.trans (by assumption))) (HC.out _ (x03.trans (by assumption)))).mono ?_); rintro e w' ⟨rfl, hx'⟩; (try clear p0 p1 p2 p3 p4 q0 q1 q2 q3 q4 r0 r1 r2 r3 r4 fz); obtain ⟨p0, p1, p2, p3, p4⟩ := HBA.out.ext hx'; obtain ⟨q0, q1, q2, q3, q4⟩ := HBB.out.ext hx'; obtain ⟨r0, r1, r2, r3, r4⟩ := HBC.out.ext hx'; have fz := (Below.frozen hx' HLT.out).trans FZ.out)
        | (go_at_call 22; (with_reducible refine (Like_any b c _ _ W3 _ (by assumption) (HB.out _ (x03.trans (by assumption))) (HC.out _ (x03.trans (by assumption)))).mono ?_); rintro e w' ⟨rfl, hx'⟩; (try clear p0 p1 p2 p3 p4 q0 q1 q2 q3 q4 r0 r1 r2 r3 r4 fz); obtain ⟨p0, p1, p2, p3, p4⟩ := HBA.out.ext hx'; obtain ⟨q0, q1, q2, q3, q4⟩ := HBB.out.ext hx'; obtain ⟨r0, r1, r2, r3, r4⟩ := HBC.out.ext hx'; have fz := (Below.frozen hx' HLT.out).trans FZ.out)
        | (go_at_call 16; refine (twakes_any W3 _ (by assumption)).mono ?_; rintro e w' ⟨rfl, hx'⟩)
        | fail)
      obtain ⟨W4, hW4⟩ : ∃ W4, W4 = w'.setCell ⟨W.heap.size, 0, none⟩ (.int .i8 0) := ⟨_, rfl⟩
      have BA4 := (HBA.out.ext hx').set0 (u := .int .i8 0)
      have BB4 := (HBB.out.ext hx').far (c := W.heap.size) (u := .int .i8 0) (by omega)
      have x04 : Ext W W4 := by rw [hW4]; exact (x03.trans hx').setCell (Nat.le_refl _) _
      rw [← hW4] at BA4 BB4 ⊢
      have HBA4 := hide BA4
      have HBB4 := hide BB4
      have hx4 : Ext W4 W4 := Ext.refl _
      clear hW4 p0 p1 p2 p3 p4 q0 q1 q2 q3 q4 r0 r1 r2 r3 r4 fz
      obtain ⟨p0, p1, p2, p3, p4⟩ := BA4
      obtain ⟨q0, q1, q2, q3, q4⟩ := BB4
      have e1 := E1.out
      rcases HLAST.out with m1 | ⟨m1, m2⟩
      all_goals
        go_wp2_with (first
        | (go_at_call 21; (with_reducible refine (Becomes_z ⟨0, a.r0, a.ctx, a.tr, a.left⟩ ⟨0, a.r0, a.ctx, a.tr, a.left⟩ _ _ W4 _ (by assumption) (HZ.out 0 _ (x04.trans (by assumption))) (HZ.out 0 _ (x04.trans (by assumption)))).mono ?_); rintro e w' ⟨rfl, hx'⟩; (try clear p0 p1 p2 p3 p4 q0 q1 q2 q3 q4); obtain ⟨p0, p1, p2, p3, p4⟩ := HBA4.out.ext hx'; obtain ⟨q0, q1, q2, q3, q4⟩ := HBB4.out.ext hx')
        | (go_at_call 22; (with_reducible refine (Like_any ⟨0, a.r0, a.ctx, a.tr, a.left⟩ b _ _ W4 _ (by assumption) (HZ.out 0 _ (x04.trans (by assumption))) (HB.out _ (x04.trans (by assumption)))).mono ?_); rintro e w' ⟨rfl, hx'⟩; (try clear p0 p1 p2 p3 p4 q0 q1 q2 q3 q4); obtain ⟨p0, p1, p2, p3, p4⟩ := HBA4.out.ext hx'; obtain ⟨q0, q1, q2, q3, q4⟩ := HBB4.out.ext hx')
        | (go_at_call 21; (with_reducible refine (Becomes_z ⟨0, a.r0, a.ctx, a.tr, a.left⟩ b _ _ W4 _ (by assumption) (HZ.out 0 _ (x04.trans (by assumption))) (HB.out _ (x04.trans (by assumption)))).mono ?_); rintro e w' ⟨rfl, hx'⟩; (try clear p0 p1 p2 p3 p4 q0 q1 q2 q3 q4); obtain ⟨p0, p1, p2, p3, p4⟩ := HBA4.out.ext hx'; obtain ⟨q0, q1, q2, q3, q4⟩ := HBB4.out.ext hx')
        | (go_at_call 16; refine (twakes_any W4 _ (by assumption)).mono ?_; rintro e w' ⟨rfl, hx'⟩)
        | fail)
        go_ret
        exact ⟨rfl, x04.trans (by assumption)⟩

theorem law_TraceChain {H : Type} {enc : TypeId × Value → H} {W : World} {r : Reach} {b0 : Nat} (v0 : Value) (k0 : Value.okWide Try.prog W r b0 31 v0) (d0 : DataW H) (p0 : List MemPlace) (h0 : DataW.Trod enc Try.prog W 0 (fun _ => true) true 31 v0 d0 p0) (_ : ∀ x ∈ p0, x.block < W.heap.size)
    (v1 : Value) (k1 : Value.okWide Try.prog W r b0 31 v1) (d1 : DataW H) (p1 : List MemPlace) (h1 : DataW.Trod enc Try.prog W 0 (fun _ => true) true 31 v1 d1 p1) (_ : ∀ x ∈ p1, x.block < W.heap.size)
    (v2 : Value) (k2 : Value.okWide Try.prog W r b0 31 v2) (d2 : DataW H) (p2 : List MemPlace) (h2 : DataW.Trod enc Try.prog W 0 (fun _ => true) true 31 v2 d2 p2) (_ : ∀ x ∈ p2, x.block < W.heap.size) :
    Calls Try.prog 5 #[v0, v1, v2] W fun e W' => e = .returned (.bool true) ∧ Below W.heap.size W W' := by
  obtain ⟨o0, g0⟩ := OcV.of_arg k0 h0
  obtain ⟨o1, g1⟩ := OcV.of_arg k1 h1
  obtain ⟨o2, g2⟩ := OcV.of_arg k2 h2
  exact chain_walk o0 o1 o2 v0 v1 v2 W g0 g1 g2
end Go.Proofs.Yteheidiiigjglaa
