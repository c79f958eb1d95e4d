/- Boxes of any shape: new blocks, stores into them, what stays. Nothing of the program is in here. -/
import Derived.Test.YtcfnglbcgkappaaGreatKn
set_option linter.unusedVariables false
set_option linter.unusedSimpArgs false
namespace Go.Proofs.YtcfnglbcgkappaaGreat
open Go.RowKit

theorem bk1 {w w' : World} {cs : Array Value} {t : TypeId} (h : Ext (w.alloc (.cells cs t)) w') : Bk w' w.heap.size cs t ∧ w.heap.size < w'.heap.size := ⟨Bk.new h, (Bk.new h).lt⟩
theorem bk2 {w w' : World} {cs ds : Array Value} {t u : TypeId} (h : Ext ((w.alloc (.cells cs t)).alloc (.cells ds u)) w') : Bk w' w.heap.size cs t ∧ Bk w' (w.heap.size + 1) ds u ∧ w.heap.size + 1 < w'.heap.size := by
  refine ⟨Bk.new (((Ext.refl _).alloc _).trans h), ?_⟩
  have := bk1 h
  simpa using this
theorem bk3 {w w' : World} {cs ds es : Array Value} {t u v : TypeId} (h : Ext (((w.alloc (.cells cs t)).alloc (.cells ds u)).alloc (.cells es v)) w') :
    Bk w' w.heap.size cs t ∧ Bk w' (w.heap.size + 1) ds u ∧ Bk w' (w.heap.size + 1 + 1) es v ∧ w.heap.size + 1 + 1 < w'.heap.size := by
  obtain ⟨h1, h2, _⟩ := bk2 (((Ext.refl _).alloc _).trans h)
  refine ⟨h1, h2, ?_⟩
  have := bk1 h
  simpa using this
theorem bk4 {w w' : World} {cs ds es fs : Array Value} {t u v s : TypeId} (h : Ext ((((w.alloc (.cells cs t)).alloc (.cells ds u)).alloc (.cells es v)).alloc (.cells fs s)) w') :
    Bk w' w.heap.size cs t ∧ Bk w' (w.heap.size + 1) ds u ∧ Bk w' (w.heap.size + 1 + 1) es v ∧ Bk w' (w.heap.size + 1 + 1 + 1) fs s ∧ w.heap.size + 1 + 1 + 1 < w'.heap.size := by
  obtain ⟨h1, h2, h3, _⟩ := bk3 (((Ext.refl _).alloc _).trans h)
  refine ⟨h1, h2, h3, ?_⟩
  have := bk1 h
  simpa using this
theorem Ext.undrew {w w' : World} (h : Ext w.drew w') : Ext w w' := (Ext.refl w).drew.trans h
theorem Bk.set {w : World} {b : Nat} {cs : Array Value} {t : TypeId} (h : Bk w b cs t) (j : Nat) (v : Value) : Bk (w.setCell ⟨b, j, none⟩ v) b (cs.setIfInBounds j v) t := heap_setCell_same w b j cs t v h
theorem Bk.off {w : World} {b : Nat} {cs : Array Value} {t : TypeId} (h : Bk w b cs t) (c j : Nat) (v : Value) (hne : c ≠ b) : Bk (w.setCell ⟨c, j, none⟩ v) b cs t := by
  unfold Bk at h ⊢
  rw [heap_setCell_other w ⟨c, j, none⟩ b v (fun e => hne e.symm)]
  exact h
theorem Bk.put2 {w : World} {b : Nat} {x y : Value} {t : TypeId} (h : Bk w b #[x, y] t) (u v : Value) : Bk ((w.setCell ⟨b, 0, none⟩ u).setCell ⟨b, 1, none⟩ v) b #[u, v] t := (h.set 0 u).set 1 v
theorem Bk.put4 {w : World} {b : Nat} {x0 x1 x2 x3 : Value} {t : TypeId} (h : Bk w b #[x0, x1, x2, x3] t) (u0 u1 u2 u3 : Value) :
    Bk ((((w.setCell ⟨b, 0, none⟩ u0).setCell ⟨b, 1, none⟩ u1).setCell ⟨b, 2, none⟩ u2).setCell ⟨b, 3, none⟩ u3) b #[u0, u1, u2, u3] t := (((h.set 0 u0).set 1 u1).set 2 u2).set 3 u3
theorem Bk.off2 {w : World} {b : Nat} {cs : Array Value} {t : TypeId} (h : Bk w b cs t) (c : Nat) (u v : Value) (hne : c ≠ b) : Bk ((w.setCell ⟨c, 0, none⟩ u).setCell ⟨c, 1, none⟩ v) b cs t := (h.off c 0 u hne).off c 1 v hne
theorem Bk.off4 {w : World} {b : Nat} {cs : Array Value} {t : TypeId} (h : Bk w b cs t) (c : Nat) (u0 u1 u2 u3 : Value) (hne : c ≠ b) :
    Bk ((((w.setCell ⟨c, 0, none⟩ u0).setCell ⟨c, 1, none⟩ u1).setCell ⟨c, 2, none⟩ u2).setCell ⟨c, 3, none⟩ u3) b cs t := (((h.off c 0 u0 hne).off c 1 u1 hne).off c 2 u2 hne).off c 3 u3 hne
theorem Bk.new2s {w : World} {b : Nat} {x y : Value} {cs : Array Value} {t : TypeId} : Bk (((w.setCell ⟨b, 0, none⟩ x).setCell ⟨b, 1, none⟩ y).alloc (.cells cs t)) w.heap.size cs t := by
  have h := Bk.new (w := (w.setCell ⟨b, 0, none⟩ x).setCell ⟨b, 1, none⟩ y) (cs := cs) (t := t) (Ext.refl _)
  simpa using h
theorem Bk.new1d {w w' : World} {cs : Array Value} {t : TypeId} (h : Ext (w.drew.alloc (.cells cs t)) w') : Bk w' w.heap.size cs t := Bk.new (w := w.drew) h
theorem bk2p {w w' : World} {cs ds : Array Value} {t u : TypeId} (h : Ext ((w.alloc (.cells cs t)).alloc (.cells ds u)) w') : Bk w' w.heap.size cs t ∧ Bk w' (w.heap.size + 1) ds u := ⟨(bk2 h).1, (bk2 h).2.1⟩
theorem bk2d {w w' : World} {cs ds : Array Value} {t u : TypeId} (h : Ext ((w.drew.alloc (.cells cs t)).alloc (.cells ds u)) w') : Bk w' w.heap.size cs t ∧ Bk w' (w.heap.size + 1) ds u := bk2p (w := w.drew) h
theorem Ext.store4 {w w' : World} (h : Ext w w') {b : Nat} (hb : w.heap.size ≤ b) (x0 x1 x2 x3 : Value) : Ext w ((((w'.setCell ⟨b, 0, none⟩ x0).setCell ⟨b, 1, none⟩ x1).setCell ⟨b, 2, none⟩ x2).setCell ⟨b, 3, none⟩ x3) :=
  (((h.store1 hb x0).store1 hb x1).store1 hb x2).store1 hb x3
end Go.Proofs.YtcfnglbcgkappaaGreat
