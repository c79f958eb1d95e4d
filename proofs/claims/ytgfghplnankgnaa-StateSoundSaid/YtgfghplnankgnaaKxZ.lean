/- Texts Kn, Bx, BdA, BdB, BdS, BdT in one. -/
import Derived.Test.YtgfghplnankgnaaBdZ
import Derived.Test.YtgfghplnankgnaaFrame
import Derived.Laws.OwnMore
import Derived.Deep.RegionHeld3
import Derived.Deep.RegionWith
import Derived.Deep.DeepCutAuto
import Derived.Deep.CutBlock
import Derived.Lib.BitFns
/- Known bits as pairs of numbers; blocks of two cells; what the operations of package known and of its reference come to (no walk). -/
set_option linter.unusedVariables false
set_option linter.unusedSimpArgs false
namespace Go.Proofs.Ytgfghplnankgnaa
open Go.RowKit

structure Kn where
  v : Int
  m : Int
  deriving DecidableEq
def Kn.wf (a : Kn) : Prop := (0 ≤ a.v ∧ a.v ≤ 18446744073709551615) ∧ (0 ≤ a.m ∧ a.m ≤ 18446744073709551615)
def kall : Kn := ⟨0, 18446744073709551615⟩
def kone (v : Int) : Kn := ⟨v, 0⟩
def kmay (a : Kn) : Bool := bits .and .u64 a.v a.m == 0
def khas (a : Kn) (x : Int) : Bool := kmay a && (bits .andNot .u64 x a.m == a.v)
def kmask (v m : Int) : Kn := ⟨bits .andNot .u64 v m, m⟩
def kjoin (a b : Kn) : Kn := if kmay a = true ∧ kmay b = true then kmask a.v (bits .or .u64 (bits .or .u64 a.m b.m) (bits .xor .u64 a.v b.v)) else kall
def kodds (a b : Kn) : Int := bits .andNot .u64 (bits .xor .u64 a.v b.v) (bits .or .u64 a.m b.m)
def kmeets (a b : Kn) : Bool := kmay a && (kmay b && (kodds a b == 0))
def kmeet (a b : Kn) : Kn := if kmeets a b = true then kmask (bits .or .u64 a.v b.v) (bits .and .u64 a.m b.m) else kall
def kin (a b : Kn) : Bool := kmay a && (kmay b && ((bits .or .u64 a.m b.m == b.m) && (bits .andNot .u64 a.v b.m == b.v)))
/-- A block of two cells that is not shared. -/
def C2 (w : World) (b : Nat) (x y : Value) : Prop := w.cell? ⟨b, 0, none⟩ = some x ∧ w.cell? ⟨b, 1, none⟩ = some y ∧ ∀ j, w.frozen? ⟨b, j, none⟩ = false
def Bk (w : World) (b : Nat) (cs : Array Value) (t : TypeId) : Prop := w.heap[b]? = some (.cells cs t (0, 0))
theorem Bk.lt {w : World} {b : Nat} {cs : Array Value} {t : TypeId} (h : Bk w b cs t) : b < w.heap.size := by
  rcases Nat.lt_or_ge b w.heap.size with hlt | hge
  · exact hlt
  · rw [Bk, Array.getElem?_eq_none hge] at h; cases h
theorem Bk.ext {w w' : World} {b : Nat} {cs : Array Value} {t : TypeId} (h : Bk w b cs t) (hx : Ext w w') : Bk w' b cs t := by
  unfold Bk at h ⊢
  rw [hx.block b (Bk.lt h)]; exact h
theorem Bk.cell {w : World} {b : Nat} {cs : Array Value} {t : TypeId} (h : Bk w b cs t) (j : Nat) : w.cell? ⟨b, j, none⟩ = cs[j]? := cell_of_row w b j cs t (0, 0) h
theorem Bk.free {w : World} {b : Nat} {cs : Array Value} {t : TypeId} (h : Bk w b cs t) (j : Nat) : w.frozen? ⟨b, j, none⟩ = false := frozen_of_row w b j cs t h
theorem Bk.new {w w' : World} {cs : Array Value} {t : TypeId} (hx : Ext (w.alloc (.cells cs t)) w') : Bk w' w.heap.size cs t := Bk.ext (w := w.alloc (.cells cs t)) (heap_alloc_new _ _) hx
theorem C2.ext {w w' : World} {b : Nat} {x y : Value} (h : C2 w b x y) (hx : Ext w w') : C2 w' b x y :=
  ⟨hx.cell h.1, hx.cell h.2.1, fun j => (Below.frozen hx (p := ⟨b, j, none⟩) (World.block_lt_of_cell? w ⟨b, 0, none⟩ h.1)).trans (h.2.2 j)⟩
theorem C2.lt {w : World} {b : Nat} {x y : Value} (h : C2 w b x y) : b < w.heap.size := World.block_lt_of_cell? w ⟨b, 0, none⟩ h.1
theorem C2.off1 {w : World} {b : Nat} {x y : Value} (h : C2 w b x y) (c j : Nat) (u : Value) (hne : c ≠ b) : C2 (w.setCell ⟨c, j, none⟩ u) b x y := by
  refine ⟨(World.cell?_setCell_other w ⟨c, j, none⟩ ⟨b, 0, none⟩ u (fun e => hne (congrArg Addr.block e))).trans h.1, (World.cell?_setCell_other w ⟨c, j, none⟩ ⟨b, 1, none⟩ u (fun e => hne (congrArg Addr.block e))).trans h.2.1, fun i => ?_⟩
  have := h.2.2 i
  simpa [go_sem] using this
theorem C2.off {w : World} {b : Nat} {x y : Value} (h : C2 w b x y) (c : Nat) (u v : Value) (hne : c ≠ b) : C2 ((w.setCell ⟨c, 0, none⟩ u).setCell ⟨c, 1, none⟩ v) b x y := (h.off1 c 0 u hne).off1 c 1 v hne
theorem C2.put {w : World} {b : Nat} {x y : Value} (h : C2 w b x y) (u v : Value) : C2 ((w.setCell ⟨b, 0, none⟩ u).setCell ⟨b, 1, none⟩ v) b u v := by
  obtain ⟨h0, h1, h2⟩ := h
  have e0 : (w.setCell ⟨b, 0, none⟩ u).cell? ⟨b, 0, none⟩ = some u := World.cell?_setCell_same w ⟨b, 0, none⟩ u h0
  have e1 : (w.setCell ⟨b, 0, none⟩ u).cell? ⟨b, 1, none⟩ = some y := (World.cell?_setCell_other w ⟨b, 0, none⟩ ⟨b, 1, none⟩ u (by simp)).trans h1
  refine ⟨(World.cell?_setCell_other _ ⟨b, 1, none⟩ ⟨b, 0, none⟩ v (by simp)).trans e0, World.cell?_setCell_same _ ⟨b, 1, none⟩ v e1, fun i => ?_⟩
  have := h2 i
  simpa [go_sem] using this
theorem wrap_bd (x : Int) : 0 ≤ IntKind.u64.wrap x ∧ IntKind.u64.wrap x ≤ 18446744073709551615 := by rw [w_u64]; omega
theorem and_bd (x y : Int) : 0 ≤ bits .and .u64 x y ∧ bits .and .u64 x y ≤ 18446744073709551615 := wrap_bd _
theorem or_bd (x y : Int) : 0 ≤ bits .or .u64 x y ∧ bits .or .u64 x y ≤ 18446744073709551615 := wrap_bd _
theorem xor_bd (x y : Int) : 0 ≤ bits .xor .u64 x y ∧ bits .xor .u64 x y ≤ 18446744073709551615 := wrap_bd _
theorem andNot_bd (x y : Int) : 0 ≤ bits .andNot .u64 x y ∧ bits .andNot .u64 x y ≤ 18446744073709551615 := wrap_bd _
theorem wf_kall : kall.wf := by unfold Kn.wf kall; simp
theorem wf_kmask {v m : Int} (h : 0 ≤ m ∧ m ≤ 18446744073709551615) : (kmask v m).wf := ⟨andNot_bd _ _, h⟩
theorem wf_kjoin (a b : Kn) : (kjoin a b).wf := by unfold kjoin; split; exact wf_kmask (or_bd _ _); exact wf_kall
end Go.Proofs.Ytgfghplnankgnaa


/- Boxes of any shape: new blocks, stores into them, what stays. Nothing of the program is in here. -/
set_option linter.unusedVariables false
set_option linter.unusedSimpArgs false
namespace Go.Proofs.Ytgfghplnankgnaa
open Go.RowKit

theorem Bk.set {w : World} {b : Nat} {cs : Array Value} {t : TypeId} (h : Bk w b cs t) (j : Nat) (v : Value) : Bk (w.setCell ⟨b, j, none⟩ v) b (cs.setIfInBounds j v) t := heap_setCell_same w b j cs t v h
theorem Bk.off {w : World} {b : Nat} {cs : Array Value} {t : TypeId} (h : Bk w b cs t) (c j : Nat) (v : Value) (hne : c ≠ b) : Bk (w.setCell ⟨c, j, none⟩ v) b cs t := by
  unfold Bk at h ⊢
  rw [heap_setCell_other w ⟨c, j, none⟩ b v (fun e => hne e.symm)]
  exact h
end Go.Proofs.Ytgfghplnankgnaa


/- Walks of the small functions of package bounds. -/
set_option linter.unusedVariables false
set_option linter.unusedSimpArgs false
namespace Go.Proofs.Ytgfghplnankgnaa
open Go.RowKit Go.ChangeShapes Go.WideShapes

end Go.Proofs.Ytgfghplnankgnaa


/- Walks of All, One, May, Has of package bounds. -/
set_option linter.unusedVariables false
set_option linter.unusedSimpArgs false
namespace Go.Proofs.Ytgfghplnankgnaa
open Go.RowKit Go.ChangeShapes Go.WideShapes

end Go.Proofs.Ytgfghplnankgnaa


/- Walks of plus, minus, without, above, below of package bounds. -/
set_option linter.unusedVariables false
set_option linter.unusedSimpArgs false
namespace Go.Proofs.Ytgfghplnankgnaa
open Go.RowKit Go.ChangeShapes Go.WideShapes

end Go.Proofs.Ytgfghplnankgnaa


/- The walk of math/bits.Len64 and LeadingZeros64. -/
set_option linter.unusedVariables false
set_option linter.unusedSimpArgs false
namespace Go.Proofs.Ytgfghplnankgnaa
open Go.RowKit Go.ChangeShapes Go.WideShapes

theorem len8_blen : ∀ n : Fin 256, Go.Lib.len8 (n.val : Int) = (blenN n.val : Int) := by decide +kernel
theorem blen_eq {n c : Nat} (h1 : 2 ^ c ≤ n) (h2 : n < 2 ^ (c + 1)) : blenN n = c + 1 := by
  have h3 := blen_le h2
  rcases Nat.lt_or_ge (blenN n) (c + 1) with h | h
  · have h4 := blen_lt n
    have h5 : 2 ^ blenN n ≤ 2 ^ c := Nat.pow_le_pow_right (by omega) (by omega)
    omega
  · omega
theorem blen_div {n k : Nat} (h : 2 ^ k ≤ n) : blenN n = k + blenN (n / 2 ^ k) := by
  have hp : 0 < 2 ^ k := Nat.pow_pos (by omega)
  have h0 : n / 2 ^ k ≠ 0 := by
    have := Nat.div_pos h hp
    omega
  have h1 := blen_ge h0
  have h2 := blen_lt (n / 2 ^ k)
  obtain ⟨c, hc⟩ : ∃ c, blenN (n / 2 ^ k) = c + 1 := by
    have : blenN (n / 2 ^ k) ≠ 0 := by
      intro h
      rw [h] at h2
      simp at h2
      omega
    exact ⟨blenN (n / 2 ^ k) - 1, by omega⟩
  rw [hc] at h1 h2 ⊢
  have e1 : 2 ^ (k + c) ≤ n := by
    rw [Nat.pow_add]
    have := Nat.mul_le_mul_left (2 ^ k) h1
    have h3 := Nat.mul_div_le n (2 ^ k)
    simp only [Nat.add_sub_cancel] at this
    omega
  have e2 : n < 2 ^ (k + c + 1) := by
    rw [Nat.add_assoc, Nat.pow_add]
    have h3 := Nat.lt_mul_div_succ n hp
    have := Nat.mul_le_mul_left (2 ^ k) (show n / 2 ^ k + 1 ≤ 2 ^ (c + 1) by omega)
    omega
  rw [blen_eq e1 e2]; omega
theorem blen_small {x : Int} (h0 : 0 ≤ x) (h1 : x < 256) : Go.Lib.len8 x = (blenN x.toNat : Int) ∧ blenN x.toNat ≤ 8 := by
  have := len8_blen ⟨x.toNat, by omega⟩
  have e : ((x.toNat : Nat) : Int) = x := by omega
  simp only [e] at this
  exact ⟨this, blen_le (by omega)⟩
theorem tab_len8 {i : Int} (h0 : 0 ≤ i) (h1 : i < 256) (h2 : i.toNat < Go.Lib.len8tab.size) : (((Go.Lib.len8tab[i.toNat]'h2).toNat : Nat) : Int) = Go.Lib.len8 i := by
  simp only [Go.Lib.len8, ByteArray.getElem?_lt' _ _ h2, Option.getD_some]
theorem u8_id {x : Int} (h0 : 0 ≤ x) (h1 : x < 256) : IntKind.u8.wrap x = x := by rw [show IntKind.u8.wrap x = x % 256 from by simp [IntKind.wrap, IntKind.bits, IntKind.signed]]; omega
theorem blen_sh {x : Int} (k : Nat) (h0 : (2 : Int) ^ k ≤ x) : blenN x.toNat = k + blenN (x / 2 ^ k).toNat := by
  have e : ((2 : Int) ^ k) = ((2 ^ k : Nat) : Int) := by simp
  rw [e] at h0 ⊢
  obtain ⟨n, rfl⟩ : ∃ n : Nat, x = n := ⟨x.toNat, by have := Nat.pow_pos (n := k) (show 0 < 2 by omega); omega⟩
  rw [blen_div (n := (n : Int).toNat) (k := k) (by omega)]
  congr 1
set_option maxRecDepth 100000 in
set_option maxHeartbeats 8000000 in
theorem b_len (x : Int) (h0 : 0 ≤ x) (h1 : x ≤ 18446744073709551615) (W w : World) (hx : Ext W w) :
    Calls Try.prog 69 #[.int .u64 x] w fun e w' => e = .returned (.int .i64 (blenN x.toNat)) ∧ Ext W w' := by
  obtain ⟨r, hr⟩ : ∃ r, blenN x.toNat = r := ⟨_, rfl⟩
  rw [hr]
  have HR := hide hr
  clear hr
  by_cases c0 : 4294967296 ≤ x
  · by_cases c1 : 65536 ≤ (x / 4294967296)
    · by_cases c2 : 256 ≤ ((x / 4294967296) / 65536)
      · have q0 : 0 ≤ (((x / 4294967296) / 65536) / 256) := by omega
        have q1 : (((x / 4294967296) / 65536) / 256) < 256 := by omega
        have e4 := u8_id q0 q1
        have E := hide (blen_small q0 q1)
        have l0 := blen_sh (x := x) 32 (by omega)
        simp only [Int.reducePow] at l0
        have L0 := hide l0
        clear l0
        have l1 := blen_sh (x := (x / 4294967296)) 16 (by omega)
        simp only [Int.reducePow] at l1
        have L1 := hide l1
        clear l1
        have l2 := blen_sh (x := ((x / 4294967296) / 65536)) 8 (by omega)
        simp only [Int.reducePow] at l2
        have L2 := hide l2
        clear l2
        have hN : Hid (r = 32 + (16 + (8 + (blenN (((x / 4294967296) / 65536) / 256).toNat)))) := hide (by rw [← HR.out, L0.out, L1.out, L2.out])
        as_aux_lemma =>
          go_enter Try.func69, Try.ntmps69
          go_wp2_with fail
          all_goals
            go_ret
            refine ⟨ret_int ?_, hx⟩
            have hm := E.out.2
            rw [tab_len8 q0 q1, E.out.1, hN.out]
            generalize blenN _ = m at hm ⊢
            clear q0 q1 e4 c0 c1 c2 h0 h1
            simp only [wrap64]
            omega
      · have q0 : 0 ≤ ((x / 4294967296) / 65536) := by omega
        have q1 : ((x / 4294967296) / 65536) < 256 := by omega
        have e4 := u8_id q0 q1
        have E := hide (blen_small q0 q1)
        have l0 := blen_sh (x := x) 32 (by omega)
        simp only [Int.reducePow] at l0
        have L0 := hide l0
        clear l0
        have l1 := blen_sh (x := (x / 4294967296)) 16 (by omega)
        simp only [Int.reducePow] at l1
        have L1 := hide l1
        clear l1
        have hN : Hid (r = 32 + (16 + (blenN ((x / 4294967296) / 65536).toNat))) := hide (by rw [← HR.out, L0.out, L1.out])
        as_aux_lemma =>
          go_enter Try.func69, Try.ntmps69
          go_wp2_with fail
          all_goals
            go_ret
            refine ⟨ret_int ?_, hx⟩
            have hm := E.out.2
            rw [tab_len8 q0 q1, E.out.1, hN.out]
            generalize blenN _ = m at hm ⊢
            clear q0 q1 e4 c0 c1 c2 h0 h1
            simp only [wrap64]
            omega
    · by_cases c2 : 256 ≤ (x / 4294967296)
      · have q0 : 0 ≤ ((x / 4294967296) / 256) := by omega
        have q1 : ((x / 4294967296) / 256) < 256 := by omega
        have e4 := u8_id q0 q1
        have E := hide (blen_small q0 q1)
        have l0 := blen_sh (x := x) 32 (by omega)
        simp only [Int.reducePow] at l0
        have L0 := hide l0
        clear l0
        have l1 := blen_sh (x := (x / 4294967296)) 8 (by omega)
        simp only [Int.reducePow] at l1
        have L1 := hide l1
        clear l1
        have hN : Hid (r = 32 + (8 + (blenN ((x / 4294967296) / 256).toNat))) := hide (by rw [← HR.out, L0.out, L1.out])
        as_aux_lemma =>
          go_enter Try.func69, Try.ntmps69
          go_wp2_with fail
          all_goals
            go_ret
            refine ⟨ret_int ?_, hx⟩
            have hm := E.out.2
            rw [tab_len8 q0 q1, E.out.1, hN.out]
            generalize blenN _ = m at hm ⊢
            clear q0 q1 e4 c0 c1 c2 h0 h1
            simp only [wrap64]
            omega
      · have q0 : 0 ≤ (x / 4294967296) := by omega
        have q1 : (x / 4294967296) < 256 := by omega
        have e4 := u8_id q0 q1
        have E := hide (blen_small q0 q1)
        have l0 := blen_sh (x := x) 32 (by omega)
        simp only [Int.reducePow] at l0
        have L0 := hide l0
        clear l0
        have hN : Hid (r = 32 + (blenN (x / 4294967296).toNat)) := hide (by rw [← HR.out, L0.out])
        as_aux_lemma =>
          go_enter Try.func69, Try.ntmps69
          go_wp2_with fail
          all_goals
            go_ret
            refine ⟨ret_int ?_, hx⟩
            have hm := E.out.2
            rw [tab_len8 q0 q1, E.out.1, hN.out]
            generalize blenN _ = m at hm ⊢
            clear q0 q1 e4 c0 c1 c2 h0 h1
            simp only [wrap64]
            omega
  · by_cases c1 : 65536 ≤ x
    · by_cases c2 : 256 ≤ (x / 65536)
      · have q0 : 0 ≤ ((x / 65536) / 256) := by omega
        have q1 : ((x / 65536) / 256) < 256 := by omega
        have e4 := u8_id q0 q1
        have E := hide (blen_small q0 q1)
        have l0 := blen_sh (x := x) 16 (by omega)
        simp only [Int.reducePow] at l0
        have L0 := hide l0
        clear l0
        have l1 := blen_sh (x := (x / 65536)) 8 (by omega)
        simp only [Int.reducePow] at l1
        have L1 := hide l1
        clear l1
        have hN : Hid (r = 16 + (8 + (blenN ((x / 65536) / 256).toNat))) := hide (by rw [← HR.out, L0.out, L1.out])
        as_aux_lemma =>
          go_enter Try.func69, Try.ntmps69
          go_wp2_with fail
          all_goals
            go_ret
            refine ⟨ret_int ?_, hx⟩
            have hm := E.out.2
            rw [tab_len8 q0 q1, E.out.1, hN.out]
            generalize blenN _ = m at hm ⊢
            clear q0 q1 e4 c0 c1 c2 h0 h1
            simp only [wrap64]
            omega
      · have q0 : 0 ≤ (x / 65536) := by omega
        have q1 : (x / 65536) < 256 := by omega
        have e4 := u8_id q0 q1
        have E := hide (blen_small q0 q1)
        have l0 := blen_sh (x := x) 16 (by omega)
        simp only [Int.reducePow] at l0
        have L0 := hide l0
        clear l0
        have hN : Hid (r = 16 + (blenN (x / 65536).toNat)) := hide (by rw [← HR.out, L0.out])
        as_aux_lemma =>
          go_enter Try.func69, Try.ntmps69
          go_wp2_with fail
          all_goals
            go_ret
            refine ⟨ret_int ?_, hx⟩
            have hm := E.out.2
            rw [tab_len8 q0 q1, E.out.1, hN.out]
            generalize blenN _ = m at hm ⊢
            clear q0 q1 e4 c0 c1 c2 h0 h1
            simp only [wrap64]
            omega
    · by_cases c2 : 256 ≤ x
      · have q0 : 0 ≤ (x / 256) := by omega
        have q1 : (x / 256) < 256 := by omega
        have e4 := u8_id q0 q1
        have E := hide (blen_small q0 q1)
        have l0 := blen_sh (x := x) 8 (by omega)
        simp only [Int.reducePow] at l0
        have L0 := hide l0
        clear l0
        have hN : Hid (r = 8 + (blenN (x / 256).toNat)) := hide (by rw [← HR.out, L0.out])
        as_aux_lemma =>
          go_enter Try.func69, Try.ntmps69
          go_wp2_with fail
          all_goals
            go_ret
            refine ⟨ret_int ?_, hx⟩
            have hm := E.out.2
            rw [tab_len8 q0 q1, E.out.1, hN.out]
            generalize blenN _ = m at hm ⊢
            clear q0 q1 e4 c0 c1 c2 h0 h1
            simp only [wrap64]
            omega
      · have q0 : 0 ≤ x := by omega
        have q1 : x < 256 := by omega
        have e4 := u8_id q0 q1
        have E := hide (blen_small q0 q1)
        have hN : Hid (r = blenN x.toNat) := hide (by rw [← HR.out])
        as_aux_lemma =>
          go_enter Try.func69, Try.ntmps69
          go_wp2_with fail
          all_goals
            go_ret
            refine ⟨ret_int ?_, hx⟩
            have hm := E.out.2
            rw [tab_len8 q0 q1, E.out.1, hN.out]
            generalize blenN _ = m at hm ⊢
            clear q0 q1 e4 c0 c1 c2 h0 h1
            simp only [wrap64]
            omega
theorem b_lz (x : Int) (h0 : 0 ≤ x) (h1 : x ≤ 18446744073709551615) (W w : World) (hx : Ext W w) :
    Calls Try.prog 68 #[.int .u64 x] w fun e w' => e = .returned (.int .i64 (64 - blenN x.toNat)) ∧ Ext W w' := by
  have hb : blenN x.toNat ≤ 64 := blen_le (by omega)
  obtain ⟨r, hr⟩ : ∃ r, blenN x.toNat = r := ⟨_, rfl⟩
  have HR := hide hr
  rw [hr] at hb ⊢
  clear hr
  go_enter Try.func68, Try.ntmps68
  go_wp2_with (first
    | (go_at_call 69; (with_reducible refine (b_len x h0 h1 W _ (by assumption)).mono ?_); rintro e w' ⟨rfl, hx'⟩; rw [HR.out])
    | fail)
  go_ret
  refine ⟨ret_int ?_, by assumption⟩
  all_goals (first | (simp only [wrap64]; done) | (simp only [wrap64]; omega) | omega)
end Go.Proofs.Ytgfghplnankgnaa

