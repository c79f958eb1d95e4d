/- The walk of the law TraceTells. -/
import Derived.Test.YteheidiiigjglaaTrCp
import Derived.Test.YteheidiiigjglaaTrU
import Derived.Test.YteheidiiigjglaaTraceChain
namespace Go.Proofs.Yteheidiiigjglaa
open Go.RowKit Go.ChangeShapes Go.WideShapes

theorem rBegins_z (sa sb : Value) (a b : List Ev) (W w : World) (hx : Ext W w) (ha : SlE w sa a) (hb : SlE w sb b) :
    Calls Try.prog 26 #[sa, sb] w fun e w' => e = .returned (.bool (pre a b)) ∧ Ext W w' :=
  (rBegins_any sa sb a b w ha hb).mono fun _ _ ⟨h1, h2⟩ => ⟨h1, hx.trans h2⟩
theorem rBecomes_z (o1 o2 : Oc) (v1 v2 : Value) (W w : World) (hx : Ext W w) (h1 : OcV w v1 o1) (h2 : OcV w v2 o2) :
    Calls Try.prog 27 #[v1, v2] w fun e w' => e = .returned (.bool (zbec o1 o2)) ∧ Ext W w' := rBecomes_any o1 o2 v1 v2 W w hx h1 h2
theorem EvV.of_rep {w : World} {cs : List Value} {x : Ev} (h : repEv.rd w cs x) : EvV w (.agg cs.toArray) x := by
  obtain ⟨y, rfl, c1, c2, rfl, ⟨rfl, _⟩, c3, c4, rfl, hs, c5, c6, rfl, ⟨rfl, _⟩, hnil⟩ := h
  obtain rfl : c6 = [] := hnil
  have hs3 := (Rep.slice repU64 Try.underlying38 (by kernel_rfl)).len hs
  obtain ⟨av, rfl⟩ : ∃ av, c3 = [av] := by
    match c3, hs3 with
    | [av], _ => exact ⟨av, rfl⟩
  exact ⟨av, rfl, (SlI.of_rep hs).1⟩
theorem EvV.of_arg {H : Type} {enc : TypeId × Value → H} {W : World} {r : Reach} {b0 : Nat} {v : Value} {d : DataW H} {p : List MemPlace}
    (hv : Value.okWide Try.prog W r b0 40 v) (h : DataW.Trod enc Try.prog W 0 (fun _ => true) true 40 v d p) : ∃ x, EvV W v x := by
  obtain ⟨x, hx⟩ := repEv.arg h
  obtain ⟨cs, rfl, _⟩ := okWide_struct Try.underlying40 hv
  exact ⟨x, by simpa [Value.cells] using EvV.of_rep hx⟩

set_option maxRecDepth 100000 in
set_option maxHeartbeats 8000000 in
theorem tells_walk (a b : Oc) (x : Ev) (n : Int) (va vb vx : Value) (W : World) (ha : OcV W va a) (hb : OcV W vb b) (hxv : EvV W vx x) :
    Calls Try.prog 7 #[va, vb, vx, .int .i64 n] W fun e W' => e = .returned (.bool true) ∧ Ext W W' := by
  obtain ⟨ac, at', rfl, ha1, ha2, ha3⟩ := ha
  obtain ⟨bc, bt, rfl, hb1, hb2, hb3⟩ := hb
  obtain ⟨xv, rfl, hx1⟩ := hxv
  have hA : ∀ w, Ext W w → OcV w (.agg #[.int .i8 a.kind, .int .u64 a.r0, ac, at', .int .i64 a.left]) a := fun w h => ⟨ac, at', rfl, ha1.ext h, ha2.ext h, ha3⟩
  have hB : ∀ w, Ext W w → OcV w (.agg #[.int .i8 b.kind, .int .u64 b.r0, bc, bt, .int .i64 b.left]) b := fun w h => ⟨bc, bt, rfl, hb1.ext h, hb2.ext h, hb3⟩
  have hX : ∀ w, Ext W w → EvV w (.agg #[.int .i64 x.num, xv, .int .u64 x.ans]) x := fun w h => ⟨xv, rfl, hx1.ext h⟩
  have TA := hide ha2
  have TB := hide hb2
  have KA := hide ha3
  obtain ⟨ox, cx, rfl, lx, mx, _⟩ := hx1
  have lx' : x.args.length ≤ 9223372036854775807 := by unfold maxLen at mx; omega
  obtain ⟨W1, hW1⟩ : ∃ W1, W1 = W.alloc (.cells #[.int .i8 a.kind, .int .u64 a.r0, ac, at', .int .i64 a.left] 31) := ⟨_, rfl⟩
  obtain ⟨W2, hW2⟩ : ∃ W2, W2 = W1.alloc (.cells #[.int .i8 b.kind, .int .u64 b.r0, bc, bt, .int .i64 b.left] 31) := ⟨_, rfl⟩
  obtain ⟨W3, hW3⟩ : ∃ W3, W3 = W2.alloc (.cells #[.int .i64 x.num, .slice ox x.args.length cx, .int .u64 x.ans] 40) := ⟨_, rfl⟩
  have s1 : W1.heap.size = W.heap.size + 1 := by rw [hW1]; simp
  have s2 : W2.heap.size = W.heap.size + 1 + 1 := by rw [hW2]; simp [s1]
  have x1 : Ext W W1 := by rw [hW1]; exact (Ext.refl W).alloc _
  have x12 : Ext W1 W2 := by rw [hW2]; exact (Ext.refl W1).alloc _
  have x23 : Ext W2 W3 := by rw [hW3]; exact (Ext.refl W2).alloc _
  have BA : Blk W3 W.heap.size #[.int .i8 a.kind, .int .u64 a.r0, ac, at', .int .i64 a.left] 31 :=
    Blk.ext (w := W1) (by rw [hW1]; exact heap_alloc_new _ _) (x12.trans x23)
  have BB : Blk W3 (W.heap.size + 1) #[.int .i8 b.kind, .int .u64 b.r0, bc, bt, .int .i64 b.left] 31 :=
    Blk.ext (w := W2) (by rw [hW2, ← s1]; exact heap_alloc_new _ _) x23
  have BX : Blk W3 (W.heap.size + 1 + 1) #[.int .i64 x.num, .slice ox x.args.length cx, .int .u64 x.ans] 40 := by rw [hW3, ← s2]; exact heap_alloc_new _ _
  have x03 : Ext W W3 := x1.trans (x12.trans x23)
  have mk : ∀ w', Ext W3 w' → Ext W3 w' ∧
      w'.cell? ⟨W.heap.size, 0, none⟩ = some (.int .i8 a.kind) ∧ w'.cell? ⟨W.heap.size, 1, none⟩ = some (.int .u64 a.r0) ∧ w'.cell? ⟨W.heap.size, 2, none⟩ = some ac ∧ w'.cell? ⟨W.heap.size, 3, none⟩ = some at' ∧ w'.cell? ⟨W.heap.size, 4, none⟩ = some (.int .i64 a.left) ∧
      w'.cell? ⟨W.heap.size + 1, 0, none⟩ = some (.int .i8 b.kind) ∧ w'.cell? ⟨W.heap.size + 1, 1, none⟩ = some (.int .u64 b.r0) ∧ w'.cell? ⟨W.heap.size + 1, 2, none⟩ = some bc ∧ w'.cell? ⟨W.heap.size + 1, 3, none⟩ = some bt ∧ w'.cell? ⟨W.heap.size + 1, 4, none⟩ = some (.int .i64 b.left) ∧
      w'.cell? ⟨W.heap.size + 1 + 1, 0, none⟩ = some (.int .i64 x.num) ∧ w'.cell? ⟨W.heap.size + 1 + 1, 1, none⟩ = some (.slice ox x.args.length cx) ∧ w'.cell? ⟨W.heap.size + 1 + 1, 2, none⟩ = some (.int .u64 x.ans) := fun w' h =>
    ⟨h, (BA.ext h).cell 0, (BA.ext h).cell 1, (BA.ext h).cell 2, (BA.ext h).cell 3, (BA.ext h).cell 4, (BB.ext h).cell 0, (BB.ext h).cell 1, (BB.ext h).cell 2, (BB.ext h).cell 3, (BB.ext h).cell 4, (BX.ext h).cell 0, (BX.ext h).cell 1, (BX.ext h).cell 2⟩
  have HA := hide hA
  have HB := hide hB
  have HX := hide hX
  have MK := hide mk
  have hss : zsame a a = true := by rw [zsame_eq]; simp
  have hx : Ext W3 W3 := Ext.refl _
  have hfr := MK.out _ hx
  clear hA hB hX mk BA BB BX s1 s2 x1 x12 x23 ha1 ha2 ha3 hb1 hb2 hb3 lx mx
  subst hW1
  subst hW2
  have hc : zgreat a = true ∨ (zgreat a = false ∧ zgreat b = true) ∨ (zgreat a = false ∧ zgreat b = false ∧ 20 < x.args.length) ∨ (zgreat a = false ∧ zgreat b = false ∧ x.args.length ≤ 20) := by
    cases zgreat a <;> cases zgreat b <;> simp; omega
  rcases hc with g1 | ⟨g1, g2⟩ | ⟨g1, g2, g3⟩ | ⟨g1, g2, g3⟩
  all_goals
    have G1 := hide g1
    go_enter Try.func7, Try.ntmps7
    go_wp2_with fail
    rw [← hW3]
    clear hW3
    go_wp2_with (first
      | (go_at_call 20; (with_reducible refine (Great_any a _ W3 _ (by assumption) (HA.out _ (x03.trans (by assumption)))).mono ?_); rintro e w' ⟨rfl, hx'⟩; clear hfr; have hfr := MK.out _ hx'; obtain ⟨h0, a0, a1, a2, a3, a4, b0, b1, b2, b3, b4, c0, c1, c2⟩ := hfr)
      | (go_at_call 20; (with_reducible refine (Great_any b _ W3 _ (by assumption) (HB.out _ (x03.trans (by assumption)))).mono ?_); rintro e w' ⟨rfl, hx'⟩; (try clear a0 a1 a2 a3 a4 b0 b1 b2 b3 b4 c0 c1 c2); obtain ⟨h0, a0, a1, a2, a3, a4, b0, b1, b2, b3, b4, c0, c1, c2⟩ := MK.out _ hx')
      | (go_at_call 16; refine (twakes_any W3 _ (by assumption)).mono ?_; rintro e w' ⟨rfl, hx'⟩)
      | fail)
  iterate 3 
    go_ret
    exact ⟨rfl, x03.trans (by assumption)⟩
  go_region_held3 (fun w' => Ext W3 w' ∧
      w'.cell? ⟨W.heap.size, 0, none⟩ = some (.int .i8 a.kind) ∧ w'.cell? ⟨W.heap.size, 1, none⟩ = some (.int .u64 a.r0) ∧ w'.cell? ⟨W.heap.size, 2, none⟩ = some ac ∧ w'.cell? ⟨W.heap.size, 3, none⟩ = some at' ∧ w'.cell? ⟨W.heap.size, 4, none⟩ = some (.int .i64 a.left) ∧
      w'.cell? ⟨W.heap.size + 1, 0, none⟩ = some (.int .i8 b.kind) ∧ w'.cell? ⟨W.heap.size + 1, 1, none⟩ = some (.int .u64 b.r0) ∧ w'.cell? ⟨W.heap.size + 1, 2, none⟩ = some bc ∧ w'.cell? ⟨W.heap.size + 1, 3, none⟩ = some bt ∧ w'.cell? ⟨W.heap.size + 1, 4, none⟩ = some (.int .i64 b.left) ∧
      w'.cell? ⟨W.heap.size + 1 + 1, 0, none⟩ = some (.int .i64 x.num) ∧ w'.cell? ⟨W.heap.size + 1 + 1, 1, none⟩ = some (.slice ox x.args.length cx) ∧ w'.cell? ⟨W.heap.size + 1 + 1, 2, none⟩ = some (.int .u64 x.ans))
    (first | exact MK.out _ hx' | exact MK.out _ hx'.drew | exact MK.out _ (by assumption) | assumption | go_keep)
    (first
      | (go_at_call 18; have hq := And.left ‹Ext W3 _ ∧ _›; (with_reducible refine (Same_any a b _ _ W3 _ (by assumption) (HA.out _ (x03.trans (by assumption))) (HB.out _ (x03.trans (by assumption)))).mono ?_); rintro e w' ⟨rfl, hx'⟩)
      | (go_at_call 24; have hq := And.left ‹Ext W3 _ ∧ _›; (with_reducible refine (rSame_any a b _ _ W3 _ (by assumption) (HA.out _ (x03.trans (by assumption))) (HB.out _ (x03.trans (by assumption)))).mono ?_); rintro e w' ⟨rfl, hx'⟩)
      | (go_at_call 22; have hq := And.left ‹Ext W3 _ ∧ _›; (with_reducible refine (Like_any a b _ _ W3 _ (by assumption) (HA.out _ (x03.trans (by assumption))) (HB.out _ (x03.trans (by assumption)))).mono ?_); rintro e w' ⟨rfl, hx'⟩)
      | (go_at_call 25; have hq := And.left ‹Ext W3 _ ∧ _›; (with_reducible refine (rLike_any a b _ _ W3 _ (by assumption) (HA.out _ (x03.trans (by assumption))) (HB.out _ (x03.trans (by assumption)))).mono ?_); rintro e w' ⟨rfl, hx'⟩)
      | (go_at_call 17; have hq := And.left ‹Ext W3 _ ∧ _›; (with_reducible refine (Begins_z _ _ a.tr b.tr W3 _ (by assumption) (TA.out.ext (x03.trans (by assumption))) (TB.out.ext (x03.trans (by assumption)))).mono ?_); rintro e w' ⟨rfl, hx'⟩)
      | (go_at_call 26; have hq := And.left ‹Ext W3 _ ∧ _›; (with_reducible refine (rBegins_z _ _ a.tr b.tr W3 _ (by assumption) (TA.out.ext (x03.trans (by assumption))) (TB.out.ext (x03.trans (by assumption)))).mono ?_); rintro e w' ⟨rfl, hx'⟩)
      | (go_at_call 21; have hq := And.left ‹Ext W3 _ ∧ _›; (with_reducible refine (Becomes_z a b _ _ W3 _ (by assumption) (HA.out _ (x03.trans (by assumption))) (HB.out _ (x03.trans (by assumption)))).mono ?_); rintro e w' ⟨rfl, hx'⟩)
      | (go_at_call 27; have hq := And.left ‹Ext W3 _ ∧ _›; (with_reducible refine (rBecomes_z a b _ _ W3 _ (by assumption) (HA.out _ (x03.trans (by assumption))) (HB.out _ (x03.trans (by assumption)))).mono ?_); rintro e w' ⟨rfl, hx'⟩)
      | (go_at_call 28; have hq := And.left ‹Ext W3 _ ∧ _›; (with_reducible refine (may_any x _ W3 _ (by assumption) (HX.out _ (x03.trans (by assumption)))).mono ?_); rintro e w' ⟨rfl, hx'⟩)
      | (go_at_call 29; have hq := And.left ‹Ext W3 _ ∧ _›; (with_reducible refine (rmay_any x _ W3 _ (by assumption) (HX.out _ (x03.trans (by assumption)))).mono ?_); rintro e w' ⟨rfl, hx'⟩)
      | (go_at_call 19; have hq := And.left ‹Ext W3 _ ∧ _›; refine (fuel_any _ _).mono ?_; rintro e w' ⟨rfl, rfl⟩)
      | (go_at_call 30; have hq := And.left ‹Ext W3 _ ∧ _›; refine (rfuel_any _ _).mono ?_; rintro e w' ⟨rfl, rfl⟩)
      | (go_at_call 23; have hq := And.left ‹Ext W3 _ ∧ _›; (with_reducible refine (Copy_any a _ W3 _ (by assumption) (HA.out _ (x03.trans (by assumption))) G1.out).mono ?_); rintro e w' ⟨vc, rfl, hcv, hx'⟩; have OC := hide (hcv.oc KA.out); obtain ⟨cc1, cc2, rfl, _⟩ := OC.out; clear hcv)
      | (go_at_call 24; have hq := And.left ‹Ext W3 _ ∧ _›; (with_reducible refine (rSame_any a a _ _ W3 _ (by assumption) OC.out (HA.out _ (x03.trans (by assumption)))).mono ?_); rintro e w' ⟨rfl, hx'⟩)
      | (go_at_call 16; have hq := And.left ‹Ext W3 _ ∧ _›; refine (twakes_any W3 _ (by assumption)).mono ?_; rintro e w' ⟨rfl, hx'⟩))
  all_goals
    go_wp2_with fail
    go_ret
    exact ⟨rfl, x03.trans (by assumption)⟩

theorem law_TraceTells {H : Type} {enc : TypeId × Value → H} {W : World} {r : Reach} {b0 : Nat} (v0 : Value) (k0 : Value.okWide Try.prog W r b0 31 v0) (d0 : DataW H) (p0 : List MemPlace) (h0 : DataW.Trod enc Try.prog W 0 (fun _ => true) true 31 v0 d0 p0) (_ : ∀ x ∈ p0, x.block < W.heap.size)
    (v1 : Value) (k1 : Value.okWide Try.prog W r b0 31 v1) (d1 : DataW H) (p1 : List MemPlace) (h1 : DataW.Trod enc Try.prog W 0 (fun _ => true) true 31 v1 d1 p1) (_ : ∀ x ∈ p1, x.block < W.heap.size)
    (v2 : Value) (k2 : Value.okWide Try.prog W r b0 40 v2) (d2 : DataW H) (p2 : List MemPlace) (h2 : DataW.Trod enc Try.prog W 0 (fun _ => true) true 40 v2 d2 p2) (_ : ∀ x ∈ p2, x.block < W.heap.size)
    (a3 : Int) (w3 : (Lit.int .i64 a3).wf = true) :
    Calls Try.prog 7 #[v0, v1, v2, .int .i64 a3] W fun e W' => e = .returned (.bool true) ∧ Below W.heap.size W W' := by
  obtain ⟨l0, g0⟩ := OcV.of_arg k0 h0
  obtain ⟨l1, g1⟩ := OcV.of_arg k1 h1
  obtain ⟨l2, g2⟩ := EvV.of_arg k2 h2
  exact tells_walk l0 l1 l2 a3 v0 v1 v2 W g0 g1 g2
end Go.Proofs.Yteheidiiigjglaa
