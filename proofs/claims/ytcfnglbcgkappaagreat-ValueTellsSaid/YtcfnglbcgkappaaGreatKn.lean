/- Known bits as pairs of numbers; blocks of two cells; what the operations of package known and of its reference come to (no walk). -/
import Derived.Test.YtcfnglbcgkappaaGreatBitsM
import Derived.Test.YtcfnglbcgkappaaGreatFrame
import Derived.Laws.OwnMore
set_option linter.unusedVariables false
set_option linter.unusedSimpArgs false
namespace Go.Proofs.YtcfnglbcgkappaaGreat
open Go.RowKit

structure Kn where
  v : Int
  m : Int
  deriving DecidableEq
def Kn.wf (a : Kn) : Prop := (0 ≤ a.v ∧ a.v ≤ 18446744073709551615) ∧ (0 ≤ a.m ∧ a.m ≤ 18446744073709551615)
def kall : Kn := ⟨0, 18446744073709551615⟩
def kone (v : Int) : Kn := ⟨v, 0⟩
def kmay (a : Kn) : Bool := bits .and .u64 a.v a.m == 0
def khas (a : Kn) (x : Int) : Bool := kmay a && (bits .andNot .u64 x a.m == a.v)
def kmask (v m : Int) : Kn := ⟨bits .andNot .u64 v m, m⟩
def kjoin (a b : Kn) : Kn := if kmay a = true ∧ kmay b = true then kmask a.v (bits .or .u64 (bits .or .u64 a.m b.m) (bits .xor .u64 a.v b.v)) else kall
def kodds (a b : Kn) : Int := bits .andNot .u64 (bits .xor .u64 a.v b.v) (bits .or .u64 a.m b.m)
def kmeets (a b : Kn) : Bool := kmay a && (kmay b && (kodds a b == 0))
def kmeet (a b : Kn) : Kn := if kmeets a b = true then kmask (bits .or .u64 a.v b.v) (bits .and .u64 a.m b.m) else kall
def rmeet (a b : Kn) : Kn := if kmeets a b = true then ⟨bits .or .u64 a.v b.v, bits .and .u64 a.m b.m⟩ else kall
def kin (a b : Kn) : Bool := kmay a && (kmay b && ((bits .or .u64 a.m b.m == b.m) && (bits .andNot .u64 a.v b.m == b.v)))
def rin (a b : Kn) : Bool := kmay a && (kmay b && ((bits .andNot .u64 a.m b.m == 0) && (bits .andNot .u64 (bits .xor .u64 a.v b.v) b.m == 0)))
def kcut (a : Kn) (w : Int) : Kn := if kmay a = true then ⟨zcut a.v w, zcut a.m w⟩ else kall
def kadd (a b : Kn) : Kn := kmask (IntKind.u64.wrap (a.v + b.v)) (bits .or .u64 (bits .or .u64 (bits .xor .u64 (IntKind.u64.wrap (a.v + b.v)) (IntKind.u64.wrap (IntKind.u64.wrap (a.m + b.m) + IntKind.u64.wrap (a.v + b.v)))) a.m) b.m)
def radd (a b : Kn) : Kn := kmask (IntKind.u64.wrap (a.v + b.v)) (bits .or .u64 (bits .or .u64 (bits .xor .u64 (IntKind.u64.wrap (IntKind.u64.wrap (a.m + b.m) + IntKind.u64.wrap (a.v + b.v))) (IntKind.u64.wrap (a.v + b.v))) a.m) b.m)
def ksub (a b : Kn) : Kn := kmask (IntKind.u64.wrap (a.v - b.v)) (bits .or .u64 (bits .or .u64 (bits .xor .u64 (IntKind.u64.wrap (IntKind.u64.wrap (a.v - b.v) + a.m)) (IntKind.u64.wrap (IntKind.u64.wrap (a.v - b.v) - b.m))) a.m) b.m)
def kand (a b : Kn) : Kn := ⟨bits .and .u64 a.v b.v, bits .andNot .u64 (bits .and .u64 (bits .or .u64 a.v a.m) (bits .or .u64 b.v b.m)) (bits .and .u64 a.v b.v)⟩
def kor (a b : Kn) : Kn := ⟨bits .or .u64 a.v b.v, bits .andNot .u64 (bits .or .u64 a.m b.m) (bits .or .u64 a.v b.v)⟩
def kxor (a b : Kn) : Kn := kmask (bits .xor .u64 a.v b.v) (bits .or .u64 a.m b.m)
def kshift (op w : Int) (a b : Kn) : Kn := kmask (zdo op w a.v (bits .and .u64 b.v (w - 1))) (zdo op w a.m (bits .and .u64 b.v (w - 1)))
/-- What Do comes to ahead of the last cut; a and b are cut. -/
def kop (op w : Int) (a b : Kn) : Kn :=
  if op = 0 then kadd a b else if op = 1 then ksub a b else if op = 4 then kor a b else if op = 5 then kand a b
  else if op = 6 ∨ op = 7 ∨ op = 12 then (if (bits .and .u64 b.m (w - 1) == 0) = true then kshift op w a b else kall)
  else if op = 8 then ksub (kone 0) a else if op = 10 then kxor a b else if op = 11 then b else kall
def kgood (op w : Int) (a b : Kn) : Bool := kmay a && (kmay b && (decide (0 ≤ op) && (decide (op ≤ 12) && zlong w)))
def kdo (op w : Int) (a b : Kn) : Kn :=
  if kgood op w a b = true then
    (if (bits .or .u64 (kcut a w).m (kcut b w).m == 0) = true then kone (zdo op w (kcut a w).v (kcut b w).v) else kcut (kop op w (kcut a w) (kcut b w)) w)
  else kall

/-- A block of two cells that is not shared. -/
def C2 (w : World) (b : Nat) (x y : Value) : Prop := w.cell? ⟨b, 0, none⟩ = some x ∧ w.cell? ⟨b, 1, none⟩ = some y ∧ ∀ j, w.frozen? ⟨b, j, none⟩ = false
def Bk (w : World) (b : Nat) (cs : Array Value) (t : TypeId) : Prop := w.heap[b]? = some (.cells cs t (0, 0))
theorem Bk.lt {w : World} {b : Nat} {cs : Array Value} {t : TypeId} (h : Bk w b cs t) : b < w.heap.size := by
  rcases Nat.lt_or_ge b w.heap.size with hlt | hge
  · exact hlt
  · rw [Bk, Array.getElem?_eq_none hge] at h; cases h
theorem Bk.ext {w w' : World} {b : Nat} {cs : Array Value} {t : TypeId} (h : Bk w b cs t) (hx : Ext w w') : Bk w' b cs t := by
  unfold Bk at h ⊢
  rw [hx.block b (Bk.lt h)]; exact h
theorem Bk.cell {w : World} {b : Nat} {cs : Array Value} {t : TypeId} (h : Bk w b cs t) (j : Nat) : w.cell? ⟨b, j, none⟩ = cs[j]? := cell_of_row w b j cs t (0, 0) h
theorem Bk.free {w : World} {b : Nat} {cs : Array Value} {t : TypeId} (h : Bk w b cs t) (j : Nat) : w.frozen? ⟨b, j, none⟩ = false := frozen_of_row w b j cs t h
theorem Bk.new {w w' : World} {cs : Array Value} {t : TypeId} (hx : Ext (w.alloc (.cells cs t)) w') : Bk w' w.heap.size cs t := Bk.ext (w := w.alloc (.cells cs t)) (heap_alloc_new _ _) hx
theorem Bk.two {w : World} {b : Nat} {x y : Value} {t : TypeId} (h : Bk w b #[x, y] t) : C2 w b x y := ⟨h.cell 0, h.cell 1, h.free⟩
theorem new1' {w w' : World} {x y : Value} {t : TypeId} (h : Ext (w.alloc (.cells #[x, y] t)) w') : C2 w' w.heap.size x y := (Bk.new h).two
theorem new1 {w w' : World} {x y : Value} {t : TypeId} (h : Ext (w.alloc (.cells #[x, y] t)) w') : C2 w' w.heap.size x y ∧ w.heap.size < w'.heap.size := ⟨(Bk.new h).two, (Bk.new h).lt⟩
theorem new2 {w w' : World} {x0 x1 y0 y1 : Value} {t u : TypeId} (h : Ext ((w.alloc (.cells #[x0, x1] t)).alloc (.cells #[y0, y1] u)) w') : C2 w' w.heap.size x0 x1 ∧ C2 w' (w.heap.size + 1) y0 y1 ∧ w.heap.size + 1 < w'.heap.size := by
  refine ⟨new1' (((Ext.refl _).alloc _).trans h), ?_⟩
  have := new1 h
  simpa using this
theorem new3 {w w' : World} {x0 x1 y0 y1 z0 z1 : Value} {t u v : TypeId} (h : Ext (((w.alloc (.cells #[x0, x1] t)).alloc (.cells #[y0, y1] u)).alloc (.cells #[z0, z1] v)) w') :
    C2 w' w.heap.size x0 x1 ∧ C2 w' (w.heap.size + 1) y0 y1 ∧ C2 w' (w.heap.size + 1 + 1) z0 z1 ∧ w.heap.size + 1 + 1 < w'.heap.size := by
  obtain ⟨h1, h2, _⟩ := new2 (((Ext.refl _).alloc _).trans h)
  refine ⟨h1, h2, ?_⟩
  have := new1 h
  simpa using this
theorem Ext.store2 {w w' : World} (h : Ext w w') {b : Nat} (hb : w.heap.size ≤ b) (x y : Value) : Ext w ((w'.setCell ⟨b, 0, none⟩ x).setCell ⟨b, 1, none⟩ y) :=
  (h.setCell (p := ⟨b, 0, none⟩) hb x).setCell (p := ⟨b, 1, none⟩) hb y
theorem Ext.store1 {w w' : World} (h : Ext w w') {b j : Nat} (hb : w.heap.size ≤ b) (x : Value) : Ext w (w'.setCell ⟨b, j, none⟩ x) := h.setCell (p := ⟨b, j, none⟩) hb x
theorem C2.ext {w w' : World} {b : Nat} {x y : Value} (h : C2 w b x y) (hx : Ext w w') : C2 w' b x y :=
  ⟨hx.cell h.1, hx.cell h.2.1, fun j => (Below.frozen hx (p := ⟨b, j, none⟩) (World.block_lt_of_cell? w ⟨b, 0, none⟩ h.1)).trans (h.2.2 j)⟩
theorem C2.lt {w : World} {b : Nat} {x y : Value} (h : C2 w b x y) : b < w.heap.size := World.block_lt_of_cell? w ⟨b, 0, none⟩ h.1
theorem C2.off1 {w : World} {b : Nat} {x y : Value} (h : C2 w b x y) (c j : Nat) (u : Value) (hne : c ≠ b) : C2 (w.setCell ⟨c, j, none⟩ u) b x y := by
  refine ⟨(World.cell?_setCell_other w ⟨c, j, none⟩ ⟨b, 0, none⟩ u (fun e => hne (congrArg Addr.block e))).trans h.1, (World.cell?_setCell_other w ⟨c, j, none⟩ ⟨b, 1, none⟩ u (fun e => hne (congrArg Addr.block e))).trans h.2.1, fun i => ?_⟩
  have := h.2.2 i
  simpa [go_sem] using this
theorem C2.off {w : World} {b : Nat} {x y : Value} (h : C2 w b x y) (c : Nat) (u v : Value) (hne : c ≠ b) : C2 ((w.setCell ⟨c, 0, none⟩ u).setCell ⟨c, 1, none⟩ v) b x y := (h.off1 c 0 u hne).off1 c 1 v hne
theorem C2.put {w : World} {b : Nat} {x y : Value} (h : C2 w b x y) (u v : Value) : C2 ((w.setCell ⟨b, 0, none⟩ u).setCell ⟨b, 1, none⟩ v) b u v := by
  obtain ⟨h0, h1, h2⟩ := h
  have e0 : (w.setCell ⟨b, 0, none⟩ u).cell? ⟨b, 0, none⟩ = some u := World.cell?_setCell_same w ⟨b, 0, none⟩ u h0
  have e1 : (w.setCell ⟨b, 0, none⟩ u).cell? ⟨b, 1, none⟩ = some y := (World.cell?_setCell_other w ⟨b, 0, none⟩ ⟨b, 1, none⟩ u (by simp)).trans h1
  refine ⟨(World.cell?_setCell_other _ ⟨b, 1, none⟩ ⟨b, 0, none⟩ v (by simp)).trans e0, World.cell?_setCell_same _ ⟨b, 1, none⟩ v e1, fun i => ?_⟩
  have := h2 i
  simpa [go_sem] using this
theorem wrap_bd (x : Int) : 0 ≤ IntKind.u64.wrap x ∧ IntKind.u64.wrap x ≤ 18446744073709551615 := by rw [w_u64]; omega
theorem and_bd (x y : Int) : 0 ≤ bits .and .u64 x y ∧ bits .and .u64 x y ≤ 18446744073709551615 := wrap_bd _
theorem or_bd (x y : Int) : 0 ≤ bits .or .u64 x y ∧ bits .or .u64 x y ≤ 18446744073709551615 := wrap_bd _
theorem xor_bd (x y : Int) : 0 ≤ bits .xor .u64 x y ∧ bits .xor .u64 x y ≤ 18446744073709551615 := wrap_bd _
theorem andNot_bd (x y : Int) : 0 ≤ bits .andNot .u64 x y ∧ bits .andNot .u64 x y ≤ 18446744073709551615 := wrap_bd _
theorem wf_kall : kall.wf := by unfold Kn.wf kall; simp
theorem wf_kone {v : Int} (h : 0 ≤ v ∧ v ≤ 18446744073709551615) : (kone v).wf := ⟨h, by simp [kone]⟩
theorem wf_kmask {v m : Int} (h : 0 ≤ m ∧ m ≤ 18446744073709551615) : (kmask v m).wf := ⟨andNot_bd _ _, h⟩
theorem wf_kjoin (a b : Kn) : (kjoin a b).wf := by unfold kjoin; split; exact wf_kmask (or_bd _ _); exact wf_kall
theorem wf_kcut {a : Kn} (h : a.wf) (w : Int) : (kcut a w).wf := by
  unfold kcut; split
  · exact ⟨zcut_bd _ _ h.1.1 h.1.2, zcut_bd _ _ h.2.1 h.2.2⟩
  · exact wf_kall
theorem wf_kop {a b : Kn} (ha : a.wf) (hb : b.wf) (op w : Int) : (kop op w a b).wf := by
  have hs := and_bd b.v (w - 1)
  unfold kop; repeat' split
  · exact wf_kmask (or_bd _ _)
  · exact wf_kmask (or_bd _ _)
  · exact ⟨or_bd _ _, andNot_bd _ _⟩
  · exact ⟨and_bd _ _, andNot_bd _ _⟩
  · exact wf_kmask (zdo_bd _ _ _ _ ha.2.1 ha.2.2 hs.1 hs.2)
  · exact wf_kall
  · exact wf_kmask (or_bd _ _)
  · exact wf_kmask (or_bd _ _)
  · exact hb
  · exact wf_kall
theorem wf_kdo {a b : Kn} (ha : a.wf) (hb : b.wf) (op w : Int) : (kdo op w a b).wf := by
  have h1 := wf_kcut ha w
  have h2 := wf_kcut hb w
  unfold kdo; repeat' split
  · exact wf_kone (zdo_bd _ _ _ _ h1.1.1 h1.1.2 h2.1.1 h2.1.2)
  · exact wf_kcut (wf_kop h1 h2 _ _) _
  · exact wf_kall
end Go.Proofs.YtcfnglbcgkappaaGreat
