/- The walk of trace.Copy. -/
import Derived.Test.YteheidiiigjglaaCp
import Derived.BigRegion
import Derived.Deep.RegionLaw
namespace Go.Proofs.Yteheidiiigjglaa
open Go.RowKit

theorem Row.form {w : World} {base : Nat} {e : TypeId} {size : Nat} {v : Value} {n : Nat} {xs : List Value} (h : w.ownsRow base e size v n xs) : ∃ oa cap, v = .slice oa n cap := by
  rcases h.2 with ⟨h1, h2⟩ | ⟨g, cap, cur, h1, _⟩
  · exact ⟨none, 0, by rw [h1, h2]⟩
  · exact ⟨_, _, h1⟩
theorem great_parts {o : Oc} (h : zgreat o = false) : o.tr.length ≤ 100 ∧ o.ctx.length ≤ 1000 ∧ ∀ i, i < o.tr.length → (o.tr.getD i default).args.length ≤ 20 := by
  simp only [zgreat, Bool.or_eq_false_iff, decide_eq_false_iff_not, List.any_eq_false] at h
  refine ⟨by omega, by omega, fun i hi => ?_⟩
  have := h.2 (o.tr.getD i default) (by simp [List.getD, hi])
  simpa using this

theorem info_u64 : (Try.prog.info? 28).map (fun i => (i.zero, i.size, i.bytes)) = some (some (.int .u64 0), 1, 8) := by kernel_rfl
theorem info_u8' : (Try.prog.info? 5).map (fun i => (i.zero, i.size, i.bytes)) = some (some (.int .u8 0), 1, 1) := by kernel_rfl

/-- The args of the first k events are rows of their own, from block s on. -/
def ArgRows (w : World) (s : Nat) (cs : List Value) (l : List Ev) (k : Nat) : Prop :=
  ∀ i, i < k → ∃ av, cs[i * 3 + 1]? = some av ∧ w.ownsRow s 28 1 av (l.getD i default).args.length ((l.getD i default).args.map (Value.int .u64))
/-- A copy: its rows are its own. -/
def CopyV (s0 : Nat) (w : World) (v : Value) (o : Oc) : Prop :=
  ∃ cv tv cs s1 s2, v = .agg #[.int .i8 o.kind, .int .u64 o.r0, cv, tv, .int .i64 o.left] ∧ s0 ≤ s1 ∧ s1 ≤ s2 ∧
    w.ownsRow s0 5 1 cv o.ctx.length (o.ctx.map (Value.int .u8)) ∧ (∀ q, cv.ownBlock = some q → q < s1) ∧
    w.ownsRow s1 40 3 tv o.tr.length cs ∧ (∀ q, tv.ownBlock = some q → q < s2) ∧ EvCells w cs o.tr ∧ ArgRows w s2 cs o.tr o.tr.length
theorem copy_base {w w' : World} {A B : Obj} {e : TypeId} {size : Nat} {v : Value} {n : Nat} {xs : List Value} (h : w'.ownsRow ((w.alloc A).alloc B).heap.size e size v n xs) : w'.ownsRow (w.heap.size + 2) e size v n xs := by
  have : ((w.alloc A).alloc B).heap.size = w.heap.size + 2 := by simp
  rw [this] at h; exact h
/-- The cells of the new row in round k: args from k on are the old ones. -/
def CpCells (w wr : World) (s2 : Nat) (cs : List Value) (l : List Ev) (k : Nat) : Prop :=
  cs.length = l.length * 3 ∧ ∀ i, i < l.length → ∃ av, cs[i * 3]? = some (.int .i64 (l.getD i default).num) ∧ cs[i * 3 + 1]? = some av ∧ cs[i * 3 + 2]? = some (.int .u64 (l.getD i default).ans) ∧
    (k ≤ i → SlI .u64 w av (l.getD i default).args) ∧ (i < k → wr.ownsRow s2 28 1 av (l.getD i default).args.length ((l.getD i default).args.map (Value.int .u64)))
def CpInv (w wr : World) (o : Oc) (v3 v5 : Value) (s1 s2 k : Nat) : Prop :=
  ∃ cs, Ext w wr ∧ Blk wr w.heap.size #[.int .i8 o.kind, .int .u64 o.r0, v3, v5, .int .i64 o.left] 31 ∧
    Blk wr (w.heap.size + 1) #[.int .i8 0, .int .u64 0, .slice none 0 0, .slice none 0 0, .int .i64 0] 31 ∧
    wr.ownsRow (w.heap.size + 2) 5 1 v3 o.ctx.length (o.ctx.map (Value.int .u8)) ∧ wr.ownsRow s1 40 3 v5 o.tr.length cs ∧ CpCells w wr s2 cs o.tr k ∧ s2 ≤ wr.heap.size
theorem Row.mono {w : World} {base base' : Nat} {e : TypeId} {size : Nat} {v : Value} {n : Nat} {xs : List Value} (h : w.ownsRow base e size v n xs) (hb : base' ≤ base) : w.ownsRow base' e size v n xs :=
  ⟨h.1, h.2.imp id (fun ⟨g, cap, cur, a, b, c⟩ => ⟨g, cap, cur, a, by omega, c⟩)⟩
theorem Row.lt' {w : World} {base : Nat} {e : TypeId} {size : Nat} {v : Value} {n : Nat} {xs : List Value} (h : w.ownsRow base e size v n xs) {q : Nat} (hq : v.ownBlock = some q) : base ≤ q := (h.lt q hq).1
theorem CpInv.step {w wr w1 : World} {o : Oc} {v3 v' : Value} {s1 s2 k g ca : Nat} (h : CpInv w wr o v3 (.slice (some ⟨g, 0, none⟩) o.tr.length ca) s1 s2 k) (hk : k < o.tr.length) (h1 : w.heap.size + 2 ≤ s1) (h3 : ∀ q, v3.ownBlock = some q → q < s1) (hg2 : g < s2)
    (ho : w1.ownsRow wr.heap.size 28 1 v' (o.tr.getD k default).args.length ((o.tr.getD k default).args.map (Value.int .u64))) (hx : Ext wr w1) :
    CpInv w (w1.setCell ⟨g, k * 3 + 1, none⟩ v') o v3 (.slice (some ⟨g, 0, none⟩) o.tr.length ca) s1 s2 (k + 1) := by
  obtain ⟨cs, c1, c2, c3, c4, c5, ⟨c6, c6'⟩, c7⟩ := h
  have hg1 : s1 ≤ g := Row.lt' c5 rfl
  refine ⟨cs.set (k * 3 + 1) v', (c1.trans hx).setCell (by show w.heap.size ≤ g; omega) _, (c2.ext hx).far _ _ _ (by omega), (c3.ext hx).far _ _ _ (by omega), Row.far (Row.ext c4 hx) _ _ _ (fun hh => by have := h3 g hh; omega),
    ((Row.ext c5 hx).stored (k * 3 + 1) v').1, ⟨by simpa using c6, fun i hi => ?_⟩, by have := Below.size hx; simp [World.setCell]; omega⟩
  obtain ⟨av, a1, a2, a3, a4, a5⟩ := c6' i hi
  by_cases hik : i = k
  · subst hik
    refine ⟨v', by rw [List.getElem?_set_ne (by omega)]; exact a1, by rw [List.getElem?_set_self (by omega)], by rw [List.getElem?_set_ne (by omega)]; exact a3, fun h => absurd h (by omega), fun _ => ?_⟩
    exact Row.far (Row.mono ho c7) _ _ _ (fun hh => by have := Row.lt' ho hh; omega)
  · refine ⟨av, by rw [List.getElem?_set_ne (by omega)]; exact a1, by rw [List.getElem?_set_ne (by omega)]; exact a2, by rw [List.getElem?_set_ne (by omega)]; exact a3, fun h => a4 (by omega), fun h => ?_⟩
    have r := a5 (by omega)
    exact Row.far (Row.ext r hx) _ _ _ (fun hh => by have := Row.lt' r hh; omega)
theorem CpInv.last {w wr : World} {o : Oc} {v3 v5 : Value} {s1 s2 : Nat} (h : CpInv w wr o v3 v5 s1 s2 o.tr.length) (h1 : w.heap.size + 2 ≤ s1) (h12 : s1 ≤ s2) (h3 : ∀ q, v3.ownBlock = some q → q < s1) (h5 : ∀ q, v5.ownBlock = some q → q < s2) :
    CopyV (w.heap.size + 2) wr (.agg #[.int .i8 o.kind, .int .u64 o.r0, v3, v5, .int .i64 o.left]) o := by
  obtain ⟨cs, c1, c2, c3, c4, c5, ⟨c6, c6'⟩, c7⟩ := h
  refine ⟨v3, v5, cs, s1, s2, rfl, h1, h12, c4, h3, c5, h5, ⟨c6, fun i hi => ?_⟩, fun i hi => ?_⟩
  · obtain ⟨av, a1, a2, a3, a4, a5⟩ := c6' i hi
    exact ⟨av, a1, a2, a3, SlI.of_own (a5 hi)⟩
  · obtain ⟨av, a1, a2, a3, a4, a5⟩ := c6' i hi
    exact ⟨av, a2, a5 hi⟩
theorem CpInv.round {w wr : World} {o : Oc} {v3 v5 : Value} {s1 s2 k : Nat} (h : CpInv w wr o v3 v5 s1 s2 k) (hk : k < o.tr.length) :
    ∃ g ca av, v5 = .slice (some ⟨g, 0, none⟩) o.tr.length ca ∧ s1 ≤ g ∧ wr.cell? ⟨g, k * 3 + 1, none⟩ = some av ∧ wr.frozen? ⟨g, k * 3 + 1, none⟩ = false ∧ SlI .u64 wr av (o.tr.getD k default).args := by
  obtain ⟨cs, c1, c2, c3, c4, c5, ⟨c6, c6'⟩, c7⟩ := h
  obtain ⟨g, ca, rfl, hb, _⟩ := c5.form (by omega)
  obtain ⟨av, a1, a2, a3, a4, a5⟩ := c6' k hk
  refine ⟨g, ca, av, rfl, hb, ?_, c5.frozenAt _, (a4 (Nat.le_refl _)).ext c1⟩
  rw [c5.cellAt _ (by omega)]; exact a2
theorem CopyV.far {s0 : Nat} {w : World} {v : Value} {o : Oc} (h : CopyV s0 w v o) (c j : Nat) (u : Value) (hc : c < s0) : CopyV s0 (w.setCell ⟨c, j, none⟩ u) v o := by
  obtain ⟨cv, tv, cs, s1, s2, rfl, h1, h2, r1, q1, r2, q2, ⟨e1, e2⟩, ar⟩ := h
  refine ⟨cv, tv, cs, s1, s2, rfl, h1, h2, Row.far r1 _ _ _ (fun hh => by have := Row.lt' r1 hh; omega), q1, Row.far r2 _ _ _ (fun hh => by have := Row.lt' r2 hh; omega), q2, ⟨e1, fun i hi => ?_⟩, fun i hi => ?_⟩
  · obtain ⟨av, a1, a2, a3, a4⟩ := e2 i hi
    obtain ⟨av', b1, b2⟩ := ar i hi
    obtain rfl : av' = av := by rw [a2] at b1; simpa using b1.symm
    exact ⟨_, a1, a2, a3, SlI.of_own (Row.far b2 _ _ _ (fun hh => by have := Row.lt' b2 hh; omega))⟩
  · obtain ⟨av, b1, b2⟩ := ar i hi
    exact ⟨av, b1, Row.far b2 _ _ _ (fun hh => by have := Row.lt' b2 hh; omega)⟩
theorem CopyV.mono {s0 s0' : Nat} {w : World} {v : Value} {o : Oc} (h : CopyV s0 w v o) (hs : s0' ≤ s0) : CopyV s0' w v o := by
  obtain ⟨cv, tv, cs, s1, s2, rfl, h1, h2, r1, q1, r2, q2, e, ar⟩ := h
  exact ⟨cv, tv, cs, s1, s2, rfl, by omega, h2, Row.mono r1 hs, q1, r2, q2, e, ar⟩
theorem CopyV.oc {s0 : Nat} {w : World} {v : Value} {o : Oc} (h : CopyV s0 w v o) (hk : ∀ x ∈ o.ctx, 0 ≤ x ∧ x ≤ 255) : OcV w v o := by
  obtain ⟨cv, tv, cs, s1, s2, rfl, h1, h2, r1, q1, r2, q2, e, ar⟩ := h
  exact ⟨cv, tv, rfl, SlI.of_own r1, SlE.of_own r2 e, hk⟩
def CopyPost (W w : World) (o : Oc) (e : Ending) (w' : World) : Prop := ∃ v, e = .returned v ∧ CopyV w.heap.size w' v o ∧ Ext W w'

set_option maxHeartbeats 4000000 in
theorem Copy_any (o : Oc) (v : Value) (W w : World) (hx : Ext W w) (h : OcV w v o) (hg : zgreat o = false) :
    Calls Try.prog 23 #[v] w (CopyPost W w o) := by
  obtain ⟨g1, g2, g3⟩ := great_parts hg
  obtain ⟨cv, tv, rfl, hc, ht, hk⟩ := h
  obtain ⟨cs, hts, hte⟩ := ht.src
  have hcs := hc.src
  obtain ⟨i0, hi0, hz0, hz1, hz2⟩ := info_parts info_u8'
  obtain ⟨i1, hi1, hy0, hy1, hy2⟩ := info_parts info_ev
  obtain ⟨i2, hi2, hw0, hw1, hw2⟩ := info_parts info_u64
  have I0 := hide (And.intro hi0 (And.intro hz0 (And.intro hz1 hz2)))
  have I1 := hide (And.intro hi1 (And.intro hy0 (And.intro hy1 hy2)))
  have I2 := hide (And.intro hi2 (And.intro hw0 (And.intro hw1 hw2)))
  have X2 := hide (fun A B => ((Ext.refl w).alloc A).alloc B)
  have SC := hide hcs
  have ST := hide hts
  have ET := hide hte
  have G3 := hide g3
  clear hi0 hz0 hz1 hz2 hi1 hy0 hy1 hy2 hi2 hw0 hw1 hw2 hcs hts hte hc ht hk hg g3
  obtain ⟨n, hn⟩ : ∃ n, n = o.tr.length := ⟨_, rfl⟩
  obtain ⟨m, hm⟩ : ∃ m, m = o.ctx.length := ⟨_, rfl⟩
  have HN := hide hn
  have HM := hide hm
  rw [← hn] at g1 ST
  rw [← hm] at g2 SC
  clear hn hm
  have B1 : ∀ A Z c t, A = .cells #[.int .i8 o.kind, .int .u64 o.r0, c, t, .int .i64 o.left] 31 → Blk ((w.alloc A).alloc Z) w.heap.size #[.int .i8 o.kind, .int .u64 o.r0, c, t, .int .i64 o.left] 31 := fun A Z c t hA => by
    subst hA
    exact Blk.ext (w := w.alloc _) (by unfold Blk; exact heap_alloc_new _ _) ((Ext.refl _).alloc Z)
  have B2 : ∀ A cs, Blk ((w.alloc A).alloc (.cells cs 31)) (w.heap.size + 1) cs 31 := fun A cs => by
    unfold Blk
    have : (w.alloc A).heap.size = w.heap.size + 1 := by simp
    rw [← this]
    exact heap_alloc_new _ _
  have HB1 := hide B1
  have HB2 := hide B2
  clear B1 B2
  go_enter Try.func23, Try.ntmps23
  go_wp2_with (first
    | (at_builtin; refine wpList_copy_src rfl _ _ 29 rfl 5 i0 _ 1 1 Try.underlying29 I0.out.1 I0.out.2.1 I0.out.2.2.1 I0.out.2.2.2 rfl (by decide) rfl _ _ _ rfl (SC.out.ext (X2.out _ _)) (by unfold maxLen; omega) (by omega) ?_; intro v3 w3 hown3 hx3; obtain ⟨oa3, ca3, rfl⟩ := Row.form hown3; have O3 := hide (copy_base hown3); have K1 := hide ((HB1.out _ _ _ _ rfl).ext hx3); have K2 := hide ((HB2.out _ _).ext hx3); have X3 := hide ((X2.out _ _).trans hx3); clear hown3 hx3; have f2 := K1.out.free 2; have c2 : w3.cell? ⟨w.heap.size, 2, none⟩ = some cv := K1.out.cell 2; have c3 : w3.cell? ⟨w.heap.size, 3, none⟩ = some tv := K1.out.cell 3)
    | (at_builtin; refine wpList_copy_src rfl _ _ 22 rfl 40 i1 _ 3 40 Try.underlying22 I1.out.1 I1.out.2.1 I1.out.2.2.1 I1.out.2.2.2 rfl (by decide) rfl _ _ _ rfl (ST.out.ext (X3.out.setCell (Nat.le_refl _) _)) (by unfold maxLen; omega) (by omega) ?_; intro v5 w5 hown5 hx5; obtain ⟨oa5, ca5, rfl⟩ := Row.form hown5; clear f2 c2 c3; have O5 := hide hown5; have X5 := hide hx5; have K3 := hide ((K1.out.set 2 _).ext hx5); have K4 := hide ((K2.out.far _ 2 _ (by omega)).ext hx5); clear hown5 hx5; have f3 := K3.out.free 3; have c4 : w5.cell? ⟨w.heap.size, 3, none⟩ = some tv := K3.out.cell 3)
    | fail)
  obtain ⟨w6, hw6⟩ : ∃ w6, w6 = w5.setCell ⟨w.heap.size, 3, none⟩ (.slice oa5 n ca5) := ⟨_, rfl⟩
  rw [← hw6]
  have inv : CpInv w w6 o (.slice oa3 m ca3) (.slice oa5 n ca5) w3.heap.size w6.heap.size 0 := by
    have hxs : Ext w (w3.setCell ⟨w.heap.size, 2, none⟩ (.slice oa3 m ca3)) := X3.out.setCell (Nat.le_refl _) _
    have hs3 : (w3.setCell ⟨w.heap.size, 2, none⟩ (.slice oa3 m ca3)).heap.size = w3.heap.size := by simp [World.setCell]
    have o5 := O5.out
    rw [hs3] at o5
    have x5 : Ext w w5 := hxs.trans X5.out
    have b2 := K2.out.lt
    rw [hw6]
    refine ⟨cs, x5.setCell (Nat.le_refl _) _, K3.out.set 3 _, K4.out.far _ _ _ (by omega), ?_, ?_, ⟨?_, fun i hi => ?_⟩, Nat.le_refl _⟩
    · have := Row.far (Row.ext (Row.far O3.out w.heap.size 2 (.slice oa3 m ca3) (fun hh => by have := Row.lt' O3.out hh; omega)) X5.out) w.heap.size 3 (.slice oa5 n ca5) (fun hh => by have := Row.lt' O3.out hh; omega)
      rw [← HM.out]; exact this
    · rw [← HN.out]
      exact Row.far o5 _ _ _ (fun hh => by have := Row.lt' o5 hh; omega)
    · exact ET.out.1
    · obtain ⟨av, a1, a2, a3, a4⟩ := ET.out.2 i hi
      exact ⟨av, a1, a2, a3, fun _ => a4, fun h => absurd h (by omega)⟩
  have hs1 : w.heap.size + 2 ≤ w3.heap.size := by have := K2.out.lt; omega
  have h3 : ∀ q, (Value.slice oa3 m ca3).ownBlock = some q → q < w3.heap.size := fun q hq => (O3.out.lt q hq).2
  have h5 : ∀ q, (Value.slice oa5 n ca5).ownBlock = some q → q < w6.heap.size := fun q hq => by
    have := (O5.out.lt q hq).2
    rw [hw6]; simpa [World.setCell] using this
  have h12 : w3.heap.size ≤ w6.heap.size := by
    have := Below.size X5.out
    rw [hw6]; simpa [World.setCell] using this
  obtain ⟨s1, hs1'⟩ : ∃ s1, s1 = w3.heap.size := ⟨_, rfl⟩
  obtain ⟨s2, hs2'⟩ : ∃ s2, s2 = w6.heap.size := ⟨_, rfl⟩
  rw [← hs1', ← hs2'] at inv
  rw [← hs1'] at hs1 h3 h12
  rw [← hs2'] at h5 h12
  have INV := hide inv
  have H3 := hide h3
  have H5 := hide h5
  have HS1 := hide hs1
  have H12 := hide h12
  clear inv h3 h5 hs1 h12 hs1' hs2' hw6 f3 c4 K1 K2 K3 K4 O3 O5 X3 X5
  go_loopw [3, 15] (fun u i wr => ∃ k : Nat, i = .int .i64 k ∧ k ≤ n ∧ Hid (CpInv w wr o (.slice oa3 m ca3) (.slice oa5 n ca5) s1 s2 k)) (fun _ i _ => n - (intOf i).toNat)
  case atStart => exact ⟨0, rfl, by omega, INV⟩
  case round =>
    obtain ⟨k, rfl, hk, hinv⟩ := hrel
    by_cases hlt : k < n
    · have hlt' : k < o.tr.length := by rw [← HN.out]; exact hlt
      obtain ⟨g, ca, av, hv5, hg1, hca, hfa, hsl⟩ := hinv.out.round hlt'
      have hn : n = o.tr.length := HN.out
      have HINV := hide hinv.out
      have c3 : wr.cell? ⟨w.heap.size, 3, none⟩ = some (.slice oa5 n ca5) := by obtain ⟨_, _, b, _⟩ := hinv.out; exact b.cell 3
      have HSL := hide hsl.src
      have hlen := G3.out k hlt'
      obtain ⟨L, hL⟩ : ∃ L, L = (o.tr.getD k default).args.length := ⟨_, rfl⟩
      obtain ⟨oc, cc, rfl, _⟩ := hsl
      rw [← hL] at hlen hca HSL
      have HL := hide hL
      obtain ⟨rfl, rfl⟩ : oa5 = some ⟨g, 0, none⟩ ∧ ca5 = ca := by simp at hv5; exact ⟨hv5.1, hv5.2.2⟩
      have hg2 : g < s2 := H5.out g rfl
      have HG := hide hg2
      have HG1 := hide hg1
      have GLT : Hid ((⟨g, k * 3 + 1, none⟩ : Addr).block < wr.heap.size) := hide (by obtain ⟨_, _, _, _, _, b, _⟩ := HINV.out; exact (b.lt g rfl).2)
      have i0 : (0 : Int) ≤ (k : Int) := by omega
      have i1 : (k : Int) < (n : Int) := by omega
      clear hinv hL hv5 hn hlt' hg1 hg2
      go_wp2_with fail
      go_region_law
        (first | (refine step_copy_src rfl _ _ 38 rfl 28 i2 _ 1 8 Try.underlying38 I2.out.1 I2.out.2.1 I2.out.2.2.1 I2.out.2.2.2 rfl (by decide) rfl _ _ _ rfl (HSL.out.ext ((Ext.refl _).drew)) (by unfold maxLen; omega) (by omega) ?_; intro v' w1 hown1 hx1; have cb := hx1.cell c3; have cg := hx1.cell hca; have fg := (Below.frozen hx1 GLT.out).trans hfa; obtain ⟨oa1, ca1, rfl⟩ := Row.form hown1; have O1 := hide hown1))
      all_goals
        have st : CpInv w (w1.setCell ⟨g, k * 3 + 1, none⟩ (.slice oa1 L ca1)) o (.slice oa3 m ca3) (.slice (some ⟨g, 0, none⟩) n ca5) s1 s2 (k + 1) := by
          have a := HINV.out
          have b := O1.out
          have c := HL.out
          rw [HN.out] at a ⊢
          have d : w1.ownsRow wr.heap.size 28 1 (.slice oa1 L ca1) (o.tr.getD k default).args.length ((o.tr.getD k default).args.map (Value.int .u64)) := by rw [← c]; exact b
          exact a.step (by rw [← HN.out]; exact hlt) HS1.out H3.out HG.out d (((Ext.refl wr).drew).trans hx1)
        have ST2 := hide st
        clear st
        go_wp2_with fail
        go_roundw
        case rel => exact ⟨k + 1, by go_num, by omega, ST2⟩
        case measure => simp [intOf]; omega
    · obtain rfl : k = n := by omega
      have HINV2 : Hid (CpInv w wr o (.slice oa3 m ca3) (.slice oa5 k ca5) s1 s2 o.tr.length) := by have := hinv; rw [← HN.out]; exact this
      obtain ⟨B1, B2⟩ : Blk wr w.heap.size #[.int .i8 o.kind, .int .u64 o.r0, .slice oa3 m ca3, .slice oa5 k ca5, .int .i64 o.left] 31 ∧ Blk wr (w.heap.size + 1) #[.int .i8 0, .int .u64 0, .slice none 0 0, .slice none 0 0, .int .i64 0] 31 := by
        obtain ⟨_, _, a, b, _⟩ := hinv.out; exact ⟨a, b⟩
      have p0 : wr.cell? ⟨w.heap.size, 0, none⟩ = some _ := B1.cell 0
      have p1 : wr.cell? ⟨w.heap.size, 1, none⟩ = some _ := B1.cell 1
      have p2 : wr.cell? ⟨w.heap.size, 2, none⟩ = some _ := B1.cell 2
      have p3 : wr.cell? ⟨w.heap.size, 3, none⟩ = some _ := B1.cell 3
      have p4 : wr.cell? ⟨w.heap.size, 4, none⟩ = some _ := B1.cell 4
      have q0 : wr.cell? ⟨w.heap.size + 1, 0, none⟩ = some _ := B2.cell 0
      have q1 : wr.cell? ⟨w.heap.size + 1, 1, none⟩ = some _ := B2.cell 1
      have q2 : wr.cell? ⟨w.heap.size + 1, 2, none⟩ = some _ := B2.cell 2
      have q3 : wr.cell? ⟨w.heap.size + 1, 3, none⟩ = some _ := B2.cell 3
      have q4 : wr.cell? ⟨w.heap.size + 1, 4, none⟩ = some _ := B2.cell 4
      have f0 := B2.free 0
      have f1 := B2.free 1
      have f2 := B2.free 2
      have f3 := B2.free 3
      have f4 := B2.free 4
      go_wp2_with fail
      have fin := HINV2.out.last HS1.out H12.out H3.out H5.out
      refine bodyPost_ret (by simp [results, Try.results23, go_sem, q0, q1, q2, q3, q4]; rfl) rfl ⟨_, rfl, ?_, ?_⟩
      · exact CopyV.mono (((((fin.far _ _ _ (by omega)).far _ _ _ (by omega)).far _ _ _ (by omega)).far _ _ _ (by omega)).far _ _ _ (by omega)) (by omega)
      · have hw : Ext w wr := by obtain ⟨_, a, _⟩ := HINV2.out; exact a
        exact hx.trans (((((hw.setCell (by show w.heap.size ≤ w.heap.size + 1; omega) _).setCell (by show w.heap.size ≤ w.heap.size + 1; omega) _).setCell (by show w.heap.size ≤ w.heap.size + 1; omega) _).setCell (by show w.heap.size ≤ w.heap.size + 1; omega) _).setCell (by show w.heap.size ≤ w.heap.size + 1; omega) _)
end Go.Proofs.Yteheidiiigjglaa
