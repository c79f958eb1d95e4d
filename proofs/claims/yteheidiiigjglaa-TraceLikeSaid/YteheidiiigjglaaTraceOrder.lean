/- The walk of the law TraceOrder. -/
import Derived.Test.YteheidiiigjglaaTrG
import Derived.Laws.AppendOwnNone
namespace Go.Proofs.Yteheidiiigjglaa
open Go.RowKit

theorem ord_same {α : Type} [DecidableEq α] (a b : List α) : (pre a b && pre b a) = decide (a = b) := by
  rw [Bool.eq_iff_iff]
  simp only [pre, Bool.and_eq_true, decide_eq_true_eq]
  constructor
  · rintro ⟨⟨h1, h2⟩, ⟨h3, _⟩⟩
    rw [h2, show a.length = b.length from by omega, List.take_length]
  · rintro rfl
    simp
theorem pre_self' {α : Type} [DecidableEq α] (a : List α) : pre a a = true := by simp [pre]
theorem pre_nil {α : Type} [DecidableEq α] (a : List α) : pre [] a = true := by simp [pre]
theorem pre_app {α : Type} [DecidableEq α] (a b : List α) : pre a (a ++ b) = true := by simp [pre]
theorem pre_on {α : Type} [DecidableEq α] {a b c : List α} (h1 : pre a b = true) (h2 : pre b c = true) : pre a c = true := by
  simp only [pre, Bool.and_eq_true, decide_eq_true_eq] at h1 h2 ⊢
  refine ⟨by omega, ?_⟩
  rw [h1.2]
  simp only [List.length_take]
  rw [Nat.min_eq_left h1.1]
  have := congrArg (List.take a.length) h2.2
  rw [List.take_take, Nat.min_eq_left h1.1] at this
  exact this
theorem same_tr (a b : List Ev) : zsame ⟨0, 0, [], a, 0⟩ ⟨0, 0, [], b, 0⟩ = decide (a = b) := by simp [zsame]

/-- The cells of events, one after the other; each as EvAt has it. -/
def EvCells (w : World) (cs : List Value) (l : List Ev) : Prop :=
  cs.length = l.length * 3 ∧ ∀ i, i < l.length → ∃ av, cs[i * 3]? = some (.int .i64 (l.getD i default).num) ∧ cs[i * 3 + 1]? = some av ∧ cs[i * 3 + 2]? = some (.int .u64 (l.getD i default).ans) ∧ SlI .u64 w av (l.getD i default).args
theorem EvCells.ext {w w' : World} {cs : List Value} {l : List Ev} (h : EvCells w cs l) (hx : Ext w w') : EvCells w' cs l :=
  ⟨h.1, fun i hi => let ⟨av, h1, h2, h3, h4⟩ := h.2 i hi; ⟨av, h1, h2, h3, h4.ext hx⟩⟩
theorem EvCells.nil (w : World) : EvCells w [] [] := ⟨rfl, fun i hi => absurd hi (by simp)⟩
theorem EvCells.app {w : World} {c1 c2 : List Value} {l1 l2 : List Ev} (h1 : EvCells w c1 l1) (h2 : EvCells w c2 l2) : EvCells w (c1 ++ c2) (l1 ++ l2) := by
  refine ⟨by rw [List.length_append, List.length_append, h1.1, h2.1, Nat.add_mul], fun i hi => ?_⟩
  by_cases h : i < l1.length
  · obtain ⟨av, a1, a2, a3, a4⟩ := h1.2 i h
    have e : (l1 ++ l2).getD i default = l1.getD i default := by simp [List.getD, List.getElem?_append_left h]
    rw [e]
    exact ⟨av, by rw [List.getElem?_append_left (by rw [h1.1]; omega)]; exact a1, by rw [List.getElem?_append_left (by rw [h1.1]; omega)]; exact a2, by rw [List.getElem?_append_left (by rw [h1.1]; omega)]; exact a3, a4⟩
  · have hi' : i - l1.length < l2.length := by rw [List.length_append] at hi; omega
    obtain ⟨av, a1, a2, a3, a4⟩ := h2.2 (i - l1.length) hi'
    have e : (l1 ++ l2).getD i default = l2.getD (i - l1.length) default := by simp [List.getD, List.getElem?_append_right (by omega : l1.length ≤ i)]
    rw [e]
    refine ⟨av, ?_, ?_, ?_, a4⟩
    · rw [List.getElem?_append_right (by rw [h1.1]; omega), h1.1, show i * 3 - l1.length * 3 = (i - l1.length) * 3 from by omega]; exact a1
    · rw [List.getElem?_append_right (by rw [h1.1]; omega), h1.1, show i * 3 + 1 - l1.length * 3 = (i - l1.length) * 3 + 1 from by omega]; exact a2
    · rw [List.getElem?_append_right (by rw [h1.1]; omega), h1.1, show i * 3 + 2 - l1.length * 3 = (i - l1.length) * 3 + 2 from by omega]; exact a3
/-- The cells that an append takes from a slice. -/
def Src (w : World) (size : Nat) (sv : Value) (m : Nat) (news : List Value) : Prop :=
  (sv = .slice none 0 0 ∧ m = 0 ∧ news = []) ∨ ∃ ad c, sv = .slice (some ad) m c ∧ news.length = m * size ∧ (∀ j u, news[j]? = some u → w.cell? (ad.add j) = some u) ∧ ∀ u ∈ news, u.oneCell' = true
theorem Src.ext {w w' : World} {size m : Nat} {sv : Value} {news : List Value} (h : Src w size sv m news) (hx : Ext w w') : Src w' size sv m news := by
  rcases h with h | ⟨ad, c, h1, h2, h3, h4⟩
  · exact .inl h
  · exact .inr ⟨ad, c, h1, h2, fun j u hj => hx.cell (h3 j u hj), h4⟩
theorem wpList_append_src {P : Program} {w w0 : World} {ops : Array Oper} {rest : List Oper} {o : Oper} {a : Act} {Q : Exit → Act → World → Prop} (hgd : o.guard = none) (s x : Operand) (t : TypeId)
    (ho : o.op = .call { callee := .builtin .append, args := #[s, x], argTypes := #[t, t] })
    (e : TypeId) (i : TypeInfo) (z : Value) (size bytes : Nat) (ht : P.underlying t = some (.slice e)) (hi : P.info? e = some i) (hz : i.zero = some z)
    (hsize : i.size = size) (hby : i.bytes = bytes) (hzs : z.cells.size = size) (hsz : 0 < size)
    (v : Value) (n : Nat) (xs : List Value) (hs : a.eval s = v) (hown : w.ownsRow w0.heap.size e size v n xs)
    (sv : Value) (m : Nat) (news : List Value) (hx : a.eval x = sv) (hsrc : Src w size sv m news)
    (h63 : n + m ≤ maxLen) (hbytes : (n + m) * bytes ≤ 140737488355328) (hE : Ext w0 w)
    (h : ∀ v' w', w'.ownsRow w0.heap.size e size v' (n + m) (xs ++ news) → Ext w0 w' → wpList P ops Q rest (a.put o.dst v') w') : wpList P ops Q (o :: rest) a w := by
  rcases hsrc with ⟨rfl, rfl, rfl⟩ | ⟨ad, c, rfl, hl, hn, h1⟩
  · exact wpList_append_own_none hgd s x t ho w0.heap.size e i size ht hi v n xs hs hown hx (h v w (by simpa using hown) hE)
  · exact wpList_append_own w hgd s x t ho w0.heap.size e i z size bytes ht hi hz hsize hby hzs hsz v n xs hs hown ad m c news hx hl hn h1 h63 hbytes hE.size
      (fun v' w' ho' hg _ => h v' w' ho' (Below.grown hE hg hE.size (fun q hq => (hown.lt q hq).1)))

theorem EvAt.at {w : World} {b o : Nat} {e : Ev} (h : EvAt w b o e) (r : Nat) (hr : r < 3) : ∃ u, w.cell? ⟨b, o + r, none⟩ = some u ∧ u.oneCell' = true := by
  obtain ⟨av, h1, h2, h3, oa, cap, rfl, _⟩ := h
  match r, hr with
  | 0, _ => exact ⟨_, h1, rfl⟩
  | 1, _ => exact ⟨_, h2, rfl⟩
  | 2, _ => exact ⟨_, h3, rfl⟩
theorem SlE.src {w : World} {v : Value} {l : List Ev} (h : SlE w v l) : ∃ cs, Src w 3 v l.length cs ∧ EvCells w cs l := by
  obtain ⟨oa, cap, rfl, hl, hm, hn, hc⟩ := h
  cases oa with
  | none =>
    have h0 := hn rfl
    obtain rfl : l = [] := List.length_eq_zero_iff.1 (by omega)
    subst h0
    exact ⟨[], .inl ⟨rfl, rfl, rfl⟩, EvCells.nil w⟩
  | some ad =>
    by_cases h0 : 0 < l.length
    · obtain ⟨b, off, ho, hi⟩ := hc h0
      obtain rfl : ad = ⟨b, off, none⟩ := by simpa using ho
      have all : ∀ j, j < l.length * 3 → ∃ u, w.cell? ⟨b, off + j, none⟩ = some u ∧ u.oneCell' = true := by
        intro j hj
        obtain ⟨u, h1, h2⟩ := (hi (j / 3) (by omega)).at (j % 3) (by omega)
        rw [show off + j / 3 * 3 + j % 3 = off + j from by omega] at h1
        exact ⟨u, h1, h2⟩
      have get : ∀ j, j < l.length * 3 → ((List.range (l.length * 3)).map fun j => (w.cell? ⟨b, off + j, none⟩).getD undef)[j]? = w.cell? ⟨b, off + j, none⟩ := by
        intro j hj
        obtain ⟨u, hu, _⟩ := all j hj
        rw [List.getElem?_map, List.getElem?_range hj]
        simp [hu]
      refine ⟨(List.range (l.length * 3)).map fun j => (w.cell? ⟨b, off + j, none⟩).getD undef, .inr ⟨_, cap, rfl, by simp, fun j u hj => ?_, fun u hu => ?_⟩, by simp, fun i hil => ?_⟩
      · have hjl : j < l.length * 3 := by
          rcases Nat.lt_or_ge j (l.length * 3) with h | h
          · exact h
          · rw [List.getElem?_eq_none (by simpa using h)] at hj; cases hj
        rw [get j hjl] at hj
        have : (⟨b, off, none⟩ : Addr).add j = ⟨b, off + j, none⟩ := by unfold Addr.add; split <;> simp_all
        rw [this]; exact hj
      · obtain ⟨j, hj, rfl⟩ := List.mem_map.1 hu
        obtain ⟨u, hu, ho⟩ := all j (by simpa using hj)
        rw [hu]; exact ho
      · obtain ⟨av, a1, a2, a3, a4⟩ := hi i hil
        refine ⟨av, ?_, ?_, ?_, a4⟩
        · rw [get _ (by omega)]; exact a1
        · rw [get _ (by omega), show off + (i * 3 + 1) = off + i * 3 + 1 from by omega]; exact a2
        · rw [get _ (by omega), show off + (i * 3 + 2) = off + i * 3 + 2 from by omega]; exact a3
    · obtain rfl : l = [] := List.length_eq_zero_iff.1 (by omega)
      exact ⟨[], .inr ⟨ad, cap, rfl, rfl, by simp, by simp⟩, EvCells.nil w⟩
theorem SlE.of_own {w : World} {base e : Nat} {v : Value} {cs : List Value} {l : List Ev} (h : w.ownsRow base e 3 v l.length cs) (hc : EvCells w cs l) : SlE w v l := by
  obtain ⟨hl, h⟩ := h
  rcases h with ⟨rfl, h0⟩ | ⟨g, cap, cur, rfl, hb, hg, hn, hm, hs, ht⟩
  · obtain rfl : l = [] := List.length_eq_zero_iff.1 h0
    exact SlE.nil w
  · refine ⟨_, _, rfl, hn, hm, (fun h => by cases h), fun _ => ⟨g, 0, rfl, fun i hi => ?_⟩⟩
    obtain ⟨av, a1, a2, a3, a4⟩ := hc.2 i hi
    have get : ∀ j u, cs[j]? = some u → w.cell? ⟨g, j, none⟩ = some u := by
      intro j u hu
      rw [cell_of_row w g j cur e (0, 0) hg]
      rw [← ht, List.getElem?_take] at hu
      split at hu
      · simpa using hu
      · cases hu
    rw [Nat.zero_add]
    exact ⟨av, get _ _ a1, get _ _ a2, get _ _ a3, a4⟩
theorem info_ev : (Try.prog.info? 40).map (fun i => (i.zero, i.size, i.bytes)) = some (some (.agg #[.int .i64 0, .slice none 0 0, .int .u64 0]), 3, 40) := by kernel_rfl
theorem Begins_z (sa sb : Value) (a b : List Ev) (W w : World) (hx : Ext W w) (ha : SlE w sa a) (hb : SlE w sb b) :
    Calls Try.prog 17 #[sa, sb] w fun e w' => e = .returned (.bool (pre a b)) ∧ Ext W w' :=
  (Begins_any sa sb a b w ha hb).mono fun _ _ ⟨h1, h2⟩ => ⟨h1, hx.trans h2⟩
theorem len_ok {l : List Ev} (h : zgreat ⟨0, 0, [], l, 0⟩ = false) : l.length ≤ 100 := by
  simp [zgreat] at h
  exact h.1

set_option maxRecDepth 100000 in
set_option maxHeartbeats 8000000 in
theorem order_walk (a b c : List Ev) (va vb vc : Value) (W : World) (ha : SlE W va a) (hb : SlE W vb b) (hc : SlE W vc c) :
    Calls Try.prog 3 #[va, vb, vc] W fun e W' => e = .returned (.bool true) ∧ Ext W W' := by
  have hx := Ext.refl W
  have HA := hide ha
  have HB := hide hb
  have HC := hide hc
  obtain ⟨csa, hsa, hea⟩ := ha.src
  obtain ⟨csb, hsb, heb⟩ := hb.src
  have HSA := hide hsa
  have HSB := hide hsb
  have HEAB := hide (hea.app heb)
  clear hsa hsb hea heb
  obtain ⟨oa, ca, rfl, _⟩ := ha
  obtain ⟨ob, cb, rfl, _⟩ := hb
  obtain ⟨oc, cc, rfl, _⟩ := hc
  obtain ⟨i0, hi, hz0, hz1, hz2⟩ := info_parts info_ev
  have HI := hide hi
  have HZ0 := hide hz0
  have HZ1 := hide hz1
  have HZ2 := hide hz2
  clear hi hz0 hz1 hz2
  by_cases hg : zgreat ⟨0, 0, [], a, 0⟩ = true ∨ (zgreat ⟨0, 0, [], a, 0⟩ = false ∧ zgreat ⟨0, 0, [], b, 0⟩ = true) ∨ (zgreat ⟨0, 0, [], a, 0⟩ = false ∧ zgreat ⟨0, 0, [], b, 0⟩ = false ∧ zgreat ⟨0, 0, [], c, 0⟩ = true)
  · rcases hg with g1 | ⟨g1, g2⟩ | ⟨g1, g2, g3⟩
    all_goals
      go_enter Try.func3, Try.ntmps3
      go_wp2_with (first
        | (go_at_call 15; (with_reducible refine (GreatAll_any a _ W _ (by assumption) (HA.out.ext (by assumption))).mono ?_); rintro e w5 ⟨rfl, hx5⟩)
        | (go_at_call 15; (with_reducible refine (GreatAll_any b _ W _ (by assumption) (HB.out.ext (by assumption))).mono ?_); rintro e w5 ⟨rfl, hx5⟩)
        | (go_at_call 15; (with_reducible refine (GreatAll_any c _ W _ (by assumption) (HC.out.ext (by assumption))).mono ?_); rintro e w5 ⟨rfl, hx5⟩)
        | (go_at_call 16; refine (twakes_any W _ (by assumption)).mono ?_; rintro e w' ⟨rfl, hx'⟩)
        | fail)
      go_ret
      exact ⟨rfl, by assumption⟩
  · have ng : zgreat ⟨0, 0, [], a, 0⟩ = false ∧ zgreat ⟨0, 0, [], b, 0⟩ = false ∧ zgreat ⟨0, 0, [], c, 0⟩ = false := by
      cases h1 : zgreat ⟨0, 0, [], a, 0⟩ <;> cases h2 : zgreat ⟨0, 0, [], b, 0⟩ <;> cases h3 : zgreat ⟨0, 0, [], c, 0⟩ <;> simp [h1, h2, h3] at hg ⊢
    obtain ⟨g1, g2, g3⟩ := ng
    clear hg
    have la := len_ok g1
    have lb := len_ok g2
    have e1 := pre_self' a
    have e2 := pre_nil a
    have e3 := pre_app a b
    have hs : zsame ⟨0, 0, [], a, 0⟩ ⟨0, 0, [], b, 0⟩ = (pre a b && pre b a) := by rw [same_tr, ord_same]
    have leaf : (pre a b = false ∧ zsame ⟨0, 0, [], a, 0⟩ ⟨0, 0, [], b, 0⟩ = false) ∨ (pre a b = true ∧ pre b a = true ∧ zsame ⟨0, 0, [], a, 0⟩ ⟨0, 0, [], b, 0⟩ = true ∧ pre b c = false) ∨ (pre a b = true ∧ pre b a = true ∧ zsame ⟨0, 0, [], a, 0⟩ ⟨0, 0, [], b, 0⟩ = true ∧ pre b c = true ∧ pre a c = true)
        ∨ (pre a b = true ∧ pre b a = false ∧ zsame ⟨0, 0, [], a, 0⟩ ⟨0, 0, [], b, 0⟩ = false ∧ pre b c = false) ∨ (pre a b = true ∧ pre b a = false ∧ zsame ⟨0, 0, [], a, 0⟩ ⟨0, 0, [], b, 0⟩ = false ∧ pre b c = true ∧ pre a c = true) := by
      rw [hs]
      cases h1 : pre a b
      · simp
      · cases h2 : pre b a <;> cases h3 : pre b c <;> simp
        · exact pre_on h1 h3
        · exact pre_on h1 h3
    clear hs
    rcases leaf with ⟨l1, l2⟩ | ⟨l1, l2, l3, l4⟩ | ⟨l1, l2, l3, l4, l5⟩ | ⟨l1, l2, l3, l4⟩ | ⟨l1, l2, l3, l4, l5⟩
    all_goals
      go_enter Try.func3, Try.ntmps3
      go_wp2_with (first
        | (go_at_call 15; (with_reducible refine (GreatAll_any a _ W _ (by assumption) (HA.out.ext (by assumption))).mono ?_); rintro e w5 ⟨rfl, hx5⟩)
        | (go_at_call 15; (with_reducible refine (GreatAll_any b _ W _ (by assumption) (HB.out.ext (by assumption))).mono ?_); rintro e w5 ⟨rfl, hx5⟩)
        | (go_at_call 15; (with_reducible refine (GreatAll_any c _ W _ (by assumption) (HC.out.ext (by assumption))).mono ?_); rintro e w5 ⟨rfl, hx5⟩)
        | (go_at_call 17; (with_reducible refine (Begins_z _ _ a b W _ (by assumption) (HA.out.ext (by assumption)) (HB.out.ext (by assumption))).mono ?_); rintro e w5 ⟨rfl, hx5⟩)
        | (go_at_call 17; (with_reducible refine (Begins_z _ _ b a W _ (by assumption) (HB.out.ext (by assumption)) (HA.out.ext (by assumption))).mono ?_); rintro e w5 ⟨rfl, hx5⟩)
        | (go_at_call 17; (with_reducible refine (Begins_z _ _ b c W _ (by assumption) (HB.out.ext (by assumption)) (HC.out.ext (by assumption))).mono ?_); rintro e w5 ⟨rfl, hx5⟩)
        | (go_at_call 17; (with_reducible refine (Begins_z _ _ a c W _ (by assumption) (HA.out.ext (by assumption)) (HC.out.ext (by assumption))).mono ?_); rintro e w5 ⟨rfl, hx5⟩)
        | (go_at_call 18; refine (Same_any ⟨0, 0, [], a, 0⟩ ⟨0, 0, [], b, 0⟩ _ _ W _ (by assumption) (OcV.only _ _ _ (HA.out.ext (by assumption))) (OcV.only _ _ _ (HB.out.ext (by assumption)))).mono ?_; rintro e w5 ⟨rfl, hx5⟩; have hmade := World.ownsRow_made (base := W.heap.size) (e := 40) (size := 3) w5 #[] 0 hx5.size (by simp [maxLen]) rfl)
        | (at_builtin; refine wpList_append_src rfl _ _ 22 rfl 40 i0 _ 3 40 Try.underlying22 HI.out HZ0.out HZ1.out HZ2.out rfl (by decide) _ _ _ rfl hown1 _ _ _ rfl (HSB.out.ext hx6) (by unfold maxLen; omega) (by omega) hx6 ?_; intro v7 w7 hown2 hx7; have HBO := hide (SlE.of_own (l := a ++ b) (by rw [List.length_append]; simpa using hown2) (HEAB.out.ext hx7)); have hx77 := Ext.refl w7; obtain ⟨o7, k7, rfl, _⟩ := HBO.out; rw [List.length_append] at HBO)
        | (at_builtin; refine wpList_append_src rfl _ _ 22 rfl 40 i0 _ 3 40 Try.underlying22 HI.out HZ0.out HZ1.out HZ2.out rfl (by decide) _ _ _ rfl hmade _ _ _ rfl (HSA.out.ext (hx5.alloc _)) (by unfold maxLen; omega) (by omega) (hx5.alloc _) ?_; intro v6 w6 hown1 hx6)
        | (go_at_call 17; (with_reducible refine (Begins_z _ _ a a w7 _ (by assumption) (HA.out.ext (hx7.trans (by assumption))) (HA.out.ext (hx7.trans (by assumption)))).mono ?_); rintro e w8 ⟨rfl, hx8⟩)
        | (go_at_call 17; (with_reducible refine (Begins_z _ _ [] a w7 _ (by assumption) (SlE.nil _) (HA.out.ext (hx7.trans (by assumption)))).mono ?_); rintro e w8 ⟨rfl, hx8⟩)
        | (go_at_call 17; (with_reducible refine (Begins_z _ _ a (a ++ b) w7 _ (by assumption) (HA.out.ext (hx7.trans (by assumption))) (HBO.out.ext (by assumption))).mono ?_); rintro e w8 ⟨rfl, hx8⟩)
        | (go_at_call 16; refine (twakes_any w7 _ (by assumption)).mono ?_; rintro e w' ⟨rfl, hx'⟩)
        | fail)
      go_ret
      exact ⟨rfl, hx7.trans (by assumption)⟩

theorem law_TraceOrder {H : Type} {enc : TypeId × Value → H} {W : World} {r : Reach} {b0 : Nat} (v0 : Value) (k0 : Value.okWide Try.prog W r b0 22 v0) (d0 : DataW H) (p0 : List MemPlace) (h0 : DataW.Trod enc Try.prog W 0 (fun _ => true) true 22 v0 d0 p0) (_ : ∀ x ∈ p0, x.block < W.heap.size)
    (v1 : Value) (k1 : Value.okWide Try.prog W r b0 22 v1) (d1 : DataW H) (p1 : List MemPlace) (h1 : DataW.Trod enc Try.prog W 0 (fun _ => true) true 22 v1 d1 p1) (_ : ∀ x ∈ p1, x.block < W.heap.size)
    (v2 : Value) (k2 : Value.okWide Try.prog W r b0 22 v2) (d2 : DataW H) (p2 : List MemPlace) (h2 : DataW.Trod enc Try.prog W 0 (fun _ => true) true 22 v2 d2 p2) (_ : ∀ x ∈ p2, x.block < W.heap.size) :
    Calls Try.prog 3 #[v0, v1, v2] W fun e W' => e = .returned (.bool true) ∧ Below W.heap.size W W' := by
  obtain ⟨l0, g0⟩ := SlE.of_arg k0 h0
  obtain ⟨l1, g1⟩ := SlE.of_arg k1 h1
  obtain ⟨l2, g2⟩ := SlE.of_arg k2 h2
  exact order_walk l0 l1 l2 v0 v1 v2 W g0 g1 g2
end Go.Proofs.Yteheidiiigjglaa
