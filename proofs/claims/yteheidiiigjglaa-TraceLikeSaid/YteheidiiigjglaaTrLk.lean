/- What stays and what may turn while a copy of an outcome is written: plain laws for the law TraceLike. No walk is in here. -/
import Derived.Test.YteheidiiigjglaaTrCp
namespace Go.Proofs.Yteheidiiigjglaa
open Go.RowKit

/-- A row of its own that holds integers of kind k, whichever. -/
def RowK (k : IntKind) (e : TypeId) (base : Nat) (w : World) (v : Value) (n : Nat) : Prop := ∃ xs, w.ownsRow base e 1 v n xs ∧ ∀ x ∈ xs, ∃ z, x = Value.int k z
theorem RowK.of {k : IntKind} {e : TypeId} {base : Nat} {w : World} {v : Value} {l : List Int} (h : w.ownsRow base e 1 v l.length (l.map (Value.int k))) : RowK k e base w v l.length :=
  ⟨_, h, fun x hx => by obtain ⟨z, _, rfl⟩ := List.mem_map.1 hx; exact ⟨z, rfl⟩⟩
theorem RowK.ext {k : IntKind} {e : TypeId} {base : Nat} {w w' : World} {v : Value} {n : Nat} (h : RowK k e base w v n) (hx : Ext w w') : RowK k e base w' v n := by
  obtain ⟨xs, h1, h2⟩ := h; exact ⟨xs, Row.ext h1 hx, h2⟩
theorem RowK.far {k : IntKind} {e : TypeId} {base : Nat} {w : World} {v : Value} {n : Nat} (h : RowK k e base w v n) (c j : Nat) (u : Value) (hne : v.ownBlock ≠ some c) : RowK k e base (w.setCell ⟨c, j, none⟩ u) v n := by
  obtain ⟨xs, h1, h2⟩ := h; exact ⟨xs, Row.far h1 c j u hne, h2⟩
theorem RowK.lt {k : IntKind} {e : TypeId} {base : Nat} {w : World} {v : Value} {n : Nat} (h : RowK k e base w v n) {q : Nat} (hq : v.ownBlock = some q) : base ≤ q := by
  obtain ⟨xs, h1, h2⟩ := h; exact Row.lt' h1 hq
theorem RowK.set {k : IntKind} {e : TypeId} {base : Nat} {w : World} {v : Value} {n : Nat} (h : RowK k e base w v n) (c j : Nat) (z : Int) : RowK k e base (w.setCell ⟨c, j, none⟩ (.int k z)) v n := by
  by_cases hc : v.ownBlock = some c
  · obtain ⟨xs, h1, h2⟩ := h
    have h1' := h1
    obtain ⟨hl, ⟨rfl, h0⟩ | ⟨g, cap, cur, rfl, _⟩⟩ := h1
    · simp [Value.ownBlock] at hc
    · obtain rfl : g = c := by simpa [Value.ownBlock] using hc
      refine ⟨xs.set j (.int k z), (h1'.stored j _).1, fun x hx => ?_⟩
      rcases List.mem_or_eq_of_mem_set hx with h | rfl
      · exact h2 x h
      · exact ⟨z, rfl⟩
  · exact h.far c j _ hc
/-- What a round reads. -/
theorem RowK.at {k : IntKind} {e : TypeId} {base : Nat} {w : World} {v : Value} {n : Nat} (h : RowK k e base w v n) (hn : 0 < n) :
    ∃ g ca, v = .slice (some ⟨g, 0, none⟩) n ca ∧ base ≤ g ∧ g < w.heap.size ∧ n ≤ ca ∧ ca ≤ maxLen ∧ (∀ i, i < n → ∃ z, w.cell? ⟨g, i, none⟩ = some (.int k z)) ∧ ∀ i, w.frozen? ⟨g, i, none⟩ = false := by
  obtain ⟨xs, h1, h2⟩ := h
  have h1' := h1
  have hl := h1.1
  obtain ⟨g, ca, rfl, hb, _⟩ := h1.form hn
  have hlt := (h1'.lt g rfl).2
  have hca : n ≤ ca ∧ ca ≤ maxLen := by
    obtain ⟨_, ⟨h, _⟩ | ⟨g', ca', cur, he, _, _, h3, h4, _⟩⟩ := h1'
    · simp at h
    · simp at he; obtain ⟨rfl, rfl⟩ := he; exact ⟨h3, h4⟩
  refine ⟨g, ca, rfl, hb, hlt, hca.1, hca.2, fun i hi => ?_, fun i => h1'.frozenAt i⟩
  have hx : i < xs.length := by omega
  obtain ⟨z, hz⟩ := h2 xs[i] (List.getElem_mem hx)
  refine ⟨z, ?_⟩
  rw [h1'.cellAt i (by omega), List.getElem?_eq_getElem hx, hz]
theorem RowK.form {k : IntKind} {e : TypeId} {base : Nat} {w : World} {v : Value} {n : Nat} (h : RowK k e base w v n) : ∃ oa cap, v = .slice oa n cap := by
  obtain ⟨xs, h1, h2⟩ := h; exact Row.form h1
theorem RowK.len {k : IntKind} {e : TypeId} {base : Nat} {w : World} {v : Value} {n : Nat} (h : RowK k e base w v n) : n ≤ maxLen := by
  by_cases hn : 0 < n
  · obtain ⟨g, ca, _, _, _, h1, h2, _⟩ := h.at hn
    omega
  · unfold maxLen; omega

/-- The events' row: numbers, and the args' values as they are told. -/
def EvK (w : World) (s1 : Nat) (tv : Value) (n : Nat) (avs : Nat → Value) : Prop :=
  ∃ cs, w.ownsRow s1 40 3 tv n cs ∧ ∀ i, i < n → (∃ z, cs[i * 3]? = some (Value.int .i64 z)) ∧ cs[i * 3 + 1]? = some (avs i)
theorem EvK.ext {w w' : World} {s1 : Nat} {tv : Value} {n : Nat} {avs : Nat → Value} (h : EvK w s1 tv n avs) (hx : Ext w w') : EvK w' s1 tv n avs := by
  obtain ⟨xs, h1, h2⟩ := h; exact ⟨xs, Row.ext h1 hx, h2⟩
theorem EvK.far {w : World} {s1 : Nat} {tv : Value} {n : Nat} {avs : Nat → Value} (h : EvK w s1 tv n avs) (c j : Nat) (u : Value) (hne : tv.ownBlock ≠ some c) : EvK (w.setCell ⟨c, j, none⟩ u) s1 tv n avs := by
  obtain ⟨xs, h1, h2⟩ := h; exact ⟨xs, Row.far h1 c j u hne, h2⟩
theorem EvK.lt {w : World} {s1 : Nat} {tv : Value} {n : Nat} {avs : Nat → Value} (h : EvK w s1 tv n avs) {q : Nat} (hq : tv.ownBlock = some q) : s1 ≤ q := by
  obtain ⟨xs, h1, h2⟩ := h; exact Row.lt' h1 hq
theorem EvK.set {w : World} {s1 g ca : Nat} {n : Nat} {avs : Nat → Value} (h : EvK w s1 (.slice (some ⟨g, 0, none⟩) n ca) n avs) (k : Nat) (z : Int) : EvK (w.setCell ⟨g, k * 3, none⟩ (.int .i64 z)) s1 (.slice (some ⟨g, 0, none⟩) n ca) n avs := by
  obtain ⟨cs, h1, h2⟩ := h
  refine ⟨_, (h1.stored (k * 3) _).1, fun i hi => ⟨?_, ?_⟩⟩
  · obtain ⟨⟨z', h3⟩, h4⟩ := h2 i hi
    by_cases hik : i = k
    · subst hik
      have hl : i * 3 < cs.length := by
        rcases Nat.lt_or_ge (i * 3) cs.length with h | h
        · exact h
        · rw [List.getElem?_eq_none h] at h3; cases h3
      exact ⟨z, by rw [List.getElem?_set_self hl]⟩
    · exact ⟨z', by rw [List.getElem?_set_ne (by omega)]; exact h3⟩
  · rw [List.getElem?_set_ne (by omega)]; exact (h2 i hi).2
theorem EvK.at {w : World} {s1 : Nat} {tv : Value} {n : Nat} {avs : Nat → Value} (h : EvK w s1 tv n avs) (hn : 0 < n) :
    ∃ g ca, tv = .slice (some ⟨g, 0, none⟩) n ca ∧ s1 ≤ g ∧ n ≤ ca ∧ ca ≤ maxLen ∧ (∀ i, i < n → (∃ z, w.cell? ⟨g, i * 3, none⟩ = some (.int .i64 z)) ∧ w.cell? ⟨g, i * 3 + 1, none⟩ = some (avs i)) ∧ ∀ i, w.frozen? ⟨g, i, none⟩ = false := by
  obtain ⟨xs, h1, h2⟩ := h
  have h1' := h1
  have hl := h1.1
  obtain ⟨g, ca, rfl, hb, _⟩ := h1.form hn
  have hca : n ≤ ca ∧ ca ≤ maxLen := by
    obtain ⟨_, ⟨h, _⟩ | ⟨g', ca', cur, he, _, _, h3, h4, _⟩⟩ := h1'
    · simp at h
    · simp at he; obtain ⟨rfl, rfl⟩ := he; exact ⟨h3, h4⟩
  refine ⟨g, ca, rfl, hb, hca.1, hca.2, fun i hi => ?_, fun i => h1'.frozenAt i⟩
  obtain ⟨⟨z, h3⟩, h4⟩ := h2 i hi
  exact ⟨⟨z, by rw [h1'.cellAt _ (by omega)]; exact h3⟩, by rw [h1'.cellAt _ (by omega)]; exact h4⟩
theorem EvK.form {w : World} {s1 : Nat} {tv : Value} {n : Nat} {avs : Nat → Value} (h : EvK w s1 tv n avs) : ∃ oa cap, tv = .slice oa n cap := by
  obtain ⟨xs, h1, h2⟩ := h; exact Row.form h1

/-- A copy that may be written: its rows lie in the blocks from lo to below hi. -/
def Mut (lo hi : Nat) (cv tv : Value) (nc nt : Nat) (avs : Nat → Value) (ns : Nat → Nat) (w : World) : Prop :=
  ∃ s1 s2, lo ≤ s1 ∧ s1 ≤ s2 ∧ RowK .u8 5 lo w cv nc ∧ (∀ q, cv.ownBlock = some q → q < s1 ∧ q < hi) ∧ EvK w s1 tv nt avs ∧ (∀ q, tv.ownBlock = some q → q < s2 ∧ q < hi) ∧
    ∀ i, i < nt → RowK .u64 28 s2 w (avs i) (ns i) ∧ ∀ q, (avs i).ownBlock = some q → q < hi
theorem Mut.ext {lo hi : Nat} {cv tv : Value} {nc nt : Nat} {avs : Nat → Value} {ns : Nat → Nat} {w w' : World} (h : Mut lo hi cv tv nc nt avs ns w) (hx : Ext w w') : Mut lo hi cv tv nc nt avs ns w' := by
  obtain ⟨s1, s2, a1, a2, a4, a5, a6, a7, a8⟩ := h
  exact ⟨s1, s2, a1, a2, a4.ext hx, a5, a6.ext hx, a7, fun i hi => ⟨(a8 i hi).1.ext hx, (a8 i hi).2⟩⟩
theorem Mut.far {lo hi : Nat} {cv tv : Value} {nc nt : Nat} {avs : Nat → Value} {ns : Nat → Nat} {w : World} (h : Mut lo hi cv tv nc nt avs ns w) (c j : Nat) (u : Value) (hc : c < lo ∨ hi ≤ c) : Mut lo hi cv tv nc nt avs ns (w.setCell ⟨c, j, none⟩ u) := by
  obtain ⟨s1, s2, a1, a2, a4, a5, a6, a7, a8⟩ := h
  refine ⟨s1, s2, a1, a2, a4.far _ _ _ (fun hh => ?_), a5, a6.far _ _ _ (fun hh => ?_), a7, fun i hi => ⟨(a8 i hi).1.far _ _ _ (fun hh => ?_), (a8 i hi).2⟩⟩
  · have := a4.lt hh; have := a5 _ hh; omega
  · have := a6.lt hh; have := a7 _ hh; omega
  · have := (a8 i hi).1.lt hh; have := (a8 i hi).2 _ hh; omega
theorem Mut.of {s0 : Nat} {w : World} {cv tv : Value} {o : Oc} {x0 x1 x4 : Value} (h : CopyV s0 w (.agg #[x0, x1, cv, tv, x4]) o) :
    ∃ avs, Mut s0 w.heap.size cv tv o.ctx.length o.tr.length avs (fun i => (o.tr.getD i default).args.length) w := by
  obtain ⟨cv', tv', cs, s1, s2, he, h1, h2, r1, q1, r2, q2, ⟨e1, e2⟩, ar⟩ := h
  simp at he
  obtain ⟨rfl, rfl, rfl, rfl, rfl⟩ := he
  refine ⟨fun i => cs.getD (i * 3 + 1) (.slice none 0 0), s1, s2, h1, h2, RowK.of r1, fun q hq => ⟨q1 q hq, (r1.lt q hq).2⟩, ⟨cs, r2, fun i hi => ?_⟩, fun q hq => ⟨q2 q hq, (r2.lt q hq).2⟩, fun i hi => ?_⟩
  · obtain ⟨av, a1, a2, a3, _⟩ := e2 i hi
    exact ⟨⟨_, a1⟩, by rw [a2]; simp [List.getD, a2]⟩
  · obtain ⟨av, a1, a2⟩ := ar i hi
    have : cs.getD (i * 3 + 1) (.slice none 0 0) = av := by simp [List.getD, a1]
    show RowK _ _ _ _ (cs.getD (i * 3 + 1) (.slice none 0 0)) _ ∧ ∀ q, (cs.getD (i * 3 + 1) (.slice none 0 0)).ownBlock = some q → q < w.heap.size
    rw [this]
    exact ⟨RowK.of a2, fun q hq => (a2.lt q hq).2⟩
theorem Mut.of' {s0 : Nat} {w : World} {cv tv : Value} {o : Oc} {x0 x1 x4 : Value} (h : CopyV s0 w (.agg #[x0, x1, cv, tv, x4]) o) :
    ∃ lo avs ns, lo = s0 ∧ Mut lo w.heap.size cv tv o.ctx.length o.tr.length avs ns w := by
  obtain ⟨avs, h⟩ := Mut.of h
  exact ⟨_, avs, _, rfl, h⟩
theorem CopyV.out {s0 : Nat} {w : World} {v : Value} {o : Oc} (h : CopyV s0 w v o) : ∃ s, s = s0 ∧ CopyV s w v o := ⟨_, rfl, h⟩
theorem Mut.ctx {lo hi : Nat} {cv tv : Value} {nc nt : Nat} {avs : Nat → Value} {ns : Nat → Nat} {w : World} (h : Mut lo hi cv tv nc nt avs ns w) (hn : 0 < nc) :
    ∃ g ca, cv = .slice (some ⟨g, 0, none⟩) nc ca ∧ lo ≤ g ∧ g < hi ∧ nc ≤ ca ∧ ca ≤ maxLen ∧ (∀ i, i < nc → ∃ z, w.cell? ⟨g, i, none⟩ = some (.int .u8 z)) ∧ (∀ i, w.frozen? ⟨g, i, none⟩ = false) ∧ ∀ j z, Mut lo hi cv tv nc nt avs ns (w.setCell ⟨g, j, none⟩ (.int .u8 z)) := by
  obtain ⟨s1, s2, a1, a2, a4, a5, a6, a7, a8⟩ := h
  obtain ⟨g, ca, rfl, b1, b2, b3, b3', b4, b5⟩ := a4.at hn
  obtain ⟨c1, c2⟩ := a5 g rfl
  refine ⟨g, ca, rfl, b1, c2, b3, b3', b4, b5, fun j z => ⟨s1, s2, a1, a2, a4.set _ _ _, a5, a6.far _ _ _ (fun hh => ?_), a7, fun i hi => ⟨(a8 i hi).1.far _ _ _ (fun hh => ?_), (a8 i hi).2⟩⟩⟩
  · have := a6.lt hh; omega
  · have := (a8 i hi).1.lt hh; omega
theorem Mut.num {lo hi : Nat} {cv tv : Value} {nc nt : Nat} {avs : Nat → Value} {ns : Nat → Nat} {w : World} (h : Mut lo hi cv tv nc nt avs ns w) (hn : 0 < nt) :
    ∃ g ca, tv = .slice (some ⟨g, 0, none⟩) nt ca ∧ lo ≤ g ∧ g < hi ∧ nt ≤ ca ∧ ca ≤ maxLen ∧ (∀ i, i < nt → (∃ z, w.cell? ⟨g, i * 3, none⟩ = some (.int .i64 z)) ∧ w.cell? ⟨g, i * 3 + 1, none⟩ = some (avs i)) ∧ (∀ i, w.frozen? ⟨g, i, none⟩ = false) ∧ ∀ j z, Mut lo hi cv tv nc nt avs ns (w.setCell ⟨g, j * 3, none⟩ (.int .i64 z)) := by
  obtain ⟨s1, s2, a1, a2, a4, a5, a6, a7, a8⟩ := h
  obtain ⟨g, ca, rfl, b1, b3, b3', b4, b5⟩ := a6.at hn
  obtain ⟨c1, c2⟩ := a7 g rfl
  refine ⟨g, ca, rfl, by omega, c2, b3, b3', b4, b5, fun j z => ⟨s1, s2, a1, a2, a4.far _ _ _ (fun hh => ?_), a5, a6.set _ _, a7, fun i hi => ⟨(a8 i hi).1.far _ _ _ (fun hh => ?_), (a8 i hi).2⟩⟩⟩
  · have := a5 g hh; omega
  · have := (a8 i hi).1.lt hh; omega
theorem Mut.arg {lo hi : Nat} {cv tv : Value} {nc nt : Nat} {avs : Nat → Value} {ns : Nat → Nat} {w : World} (h : Mut lo hi cv tv nc nt avs ns w) {i : Nat} (hi' : i < nt) (hn : 0 < ns i) :
    ∃ g ca, avs i = .slice (some ⟨g, 0, none⟩) (ns i) ca ∧ lo ≤ g ∧ g < hi ∧ ns i ≤ ca ∧ ca ≤ maxLen ∧ (∀ j, j < ns i → ∃ z, w.cell? ⟨g, j, none⟩ = some (.int .u64 z)) ∧ (∀ j, w.frozen? ⟨g, j, none⟩ = false) ∧ ∀ j z, Mut lo hi cv tv nc nt avs ns (w.setCell ⟨g, j, none⟩ (.int .u64 z)) := by
  obtain ⟨s1, s2, a1, a2, a4, a5, a6, a7, a8⟩ := h
  obtain ⟨g, ca, e, b1, b2, b3, b3', b4, b5⟩ := (a8 i hi').1.at hn
  have c2 := (a8 i hi').2 g (by rw [e]; rfl)
  refine ⟨g, ca, e, by omega, c2, b3, b3', b4, b5, fun j z => ⟨s1, s2, a1, a2, a4.far _ _ _ (fun hh => ?_), a5, a6.far _ _ _ (fun hh => ?_), a7, fun i hi => ⟨(a8 i hi).1.set _ _ _, (a8 i hi).2⟩⟩⟩
  · have := a5 g hh; omega
  · have := a7 g hh; omega
theorem Mut.argForm {lo hi : Nat} {cv tv : Value} {nc nt : Nat} {avs : Nat → Value} {ns : Nat → Nat} {w : World} (h : Mut lo hi cv tv nc nt avs ns w) {i : Nat} (hi' : i < nt) : ∃ oa ca, avs i = .slice oa (ns i) ca := by
  obtain ⟨s1, s2, a1, a2, a4, a5, a6, a7, a8⟩ := h
  exact (a8 i hi').1.form
theorem Mut.argLen {lo hi : Nat} {cv tv : Value} {nc nt : Nat} {avs : Nat → Value} {ns : Nat → Nat} {w : World} (h : Mut lo hi cv tv nc nt avs ns w) {i : Nat} (hi' : i < nt) : ns i ≤ maxLen := by
  obtain ⟨s1, s2, a1, a2, a4, a5, a6, a7, a8⟩ := h
  exact (a8 i hi').1.len
theorem Mut.ctxForm {lo hi : Nat} {cv tv : Value} {nc nt : Nat} {avs : Nat → Value} {ns : Nat → Nat} {w : World} (h : Mut lo hi cv tv nc nt avs ns w) : ∃ oa ca, cv = .slice oa nc ca := by
  obtain ⟨s1, s2, a1, a2, a4, a5, a6, a7, a8⟩ := h
  exact a4.form
theorem Mut.trForm {lo hi : Nat} {cv tv : Value} {nc nt : Nat} {avs : Nat → Value} {ns : Nat → Nat} {w : World} (h : Mut lo hi cv tv nc nt avs ns w) : ∃ oa ca, tv = .slice oa nt ca := by
  obtain ⟨s1, s2, a1, a2, a4, a5, a6, a7, a8⟩ := h
  exact a6.form

theorem CopyV.ext {s0 : Nat} {w w' : World} {v : Value} {o : Oc} (h : CopyV s0 w v o) (hx : Ext w w') : CopyV s0 w' v o := by
  obtain ⟨cv, tv, cs, s1, s2, rfl, h1, h2, r1, q1, r2, q2, ⟨e1, e2⟩, ar⟩ := h
  refine ⟨cv, tv, cs, s1, s2, rfl, h1, h2, Row.ext r1 hx, q1, Row.ext r2 hx, q2, ⟨e1, fun i hi => ?_⟩, fun i hi => ?_⟩
  · obtain ⟨av, a1, a2, a3, a4⟩ := e2 i hi
    exact ⟨_, a1, a2, a3, a4.ext hx⟩
  · obtain ⟨av, b1, b2⟩ := ar i hi
    exact ⟨av, b1, Row.ext b2 hx⟩
theorem CopyV.form {s0 : Nat} {w : World} {v : Value} {o : Oc} (h : CopyV s0 w v o) : ∃ oa ca ob cb, v = .agg #[.int .i8 o.kind, .int .u64 o.r0, .slice oa o.ctx.length ca, .slice ob o.tr.length cb, .int .i64 o.left] := by
  obtain ⟨cv, tv, cs, s1, s2, rfl, h1, h2, r1, q1, r2, q2, _⟩ := h
  obtain ⟨oa, ca, rfl⟩ := Row.form r1
  obtain ⟨ob, cb, rfl⟩ := Row.form r2
  exact ⟨_, _, _, _, rfl⟩
theorem Box5.off {w : World} {b : Nat} {v0 v1 v2 v3 v4 : Value} (h : Box5 w b v0 v1 v2 v3 v4) (c j : Nat) (u : Value) (hne : b ≠ c) : Box5 (w.setCell ⟨c, j, none⟩ u) b v0 v1 v2 v3 v4 := by
  obtain ⟨h0, h1, h2, h3, h4⟩ := h
  have H : ∀ i v, w.cell? ⟨b, i, none⟩ = some v → (w.setCell ⟨c, j, none⟩ u).cell? ⟨b, i, none⟩ = some v := fun i v hv => by
    exact (World.cell?_setCell_other w ⟨c, j, none⟩ ⟨b, i, none⟩ u (fun e => hne (congrArg Addr.block e).symm)).trans hv
  exact ⟨H _ _ h0, H _ _ h1, H _ _ h2, H _ _ h3, H _ _ h4⟩
theorem new_one {w w2 : World} {cs : Array Value} {t : TypeId} (h : Ext (w.alloc (.cells cs t)) w2) : Blk w2 w.heap.size cs t := Blk.ext (w := w.alloc (.cells cs t)) (heap_alloc_new _ _) h
theorem new_two {w w2 : World} {cs ds : Array Value} {t u : TypeId} (h : Ext ((w.alloc (.cells cs t)).alloc (.cells ds u)) w2) : Blk w2 w.heap.size cs t ∧ Blk w2 (w.heap.size + 1) ds u := by
  refine ⟨new_one (((Ext.refl _).alloc _).trans h), ?_⟩
  have := new_one h
  simpa using this
theorem new_one_d {w w2 : World} {cs : Array Value} {t : TypeId} (h : Ext (w.drew.alloc (.cells cs t)) w2) : Blk w2 w.heap.size cs t := new_one (w := w.drew) h
theorem new_two_d {w w2 : World} {cs ds : Array Value} {t u : TypeId} (h : Ext ((w.drew.alloc (.cells cs t)).alloc (.cells ds u)) w2) : Blk w2 w.heap.size cs t ∧ Blk w2 (w.heap.size + 1) ds u := new_two (w := w.drew) h
/-- What stays while the copy at block p is written: the world that was, both boxes, the other copy. -/
def LK (W3 : World) (a : Oc) (p q lo hi : Nat) (cv tv kc kt : Value) (avs : Nat → Value) (ns : Nat → Nat) (w : World) : Prop :=
  Ext W3 w ∧ Box5 w p (.int .i8 a.kind) (.int .u64 a.r0) cv tv (.int .i64 a.left) ∧ Box5 w q (.int .i8 a.kind) (.int .u64 a.r0) kc kt (.int .i64 a.left) ∧
    CopyV hi w (.agg #[.int .i8 a.kind, .int .u64 a.r0, kc, kt, .int .i64 a.left]) a ∧ Mut lo hi cv tv a.ctx.length a.tr.length avs ns w ∧ W3.heap.size ≤ lo ∧ (p < lo ∨ hi ≤ p) ∧ (q < lo ∨ hi ≤ q)
theorem LK.set {W3 : World} {a : Oc} {p q lo hi : Nat} {cv tv kc kt : Value} {avs : Nat → Value} {ns : Nat → Nat} {w : World} (h : LK W3 a p q lo hi cv tv kc kt avs ns w) (g j : Nat) (u : Value) (h1 : lo ≤ g) (h2 : g < hi)
    (hm : Mut lo hi cv tv a.ctx.length a.tr.length avs ns (w.setCell ⟨g, j, none⟩ u)) : LK W3 a p q lo hi cv tv kc kt avs ns (w.setCell ⟨g, j, none⟩ u) := by
  obtain ⟨x1, x2, x3, x4, x5, x6, x7, x8⟩ := h
  exact ⟨x1.setCell (by show W3.heap.size ≤ g; omega) _, x2.off _ _ _ (by omega), x3.off _ _ _ (by omega), x4.far _ _ _ h2, hm, x6, x7, x8⟩
theorem LK.drew {W3 : World} {a : Oc} {p q lo hi : Nat} {cv tv kc kt : Value} {avs : Nat → Value} {ns : Nat → Nat} {w : World} (h : LK W3 a p q lo hi cv tv kc kt avs ns w) : LK W3 a p q lo hi cv tv kc kt avs ns w.drew := by
  obtain ⟨x1, x2, x3, x4, x5, x6, x7, x8⟩ := h
  exact ⟨x1.drew, x2.ext (Ext.refl _).drew, x3.ext (Ext.refl _).drew, x4.ext (Ext.refl _).drew, x5.ext (Ext.refl _).drew, x6, x7, x8⟩
theorem CopyV.sets {s0 : Nat} {w : World} {v : Value} {o : Oc} (h : CopyV s0 w v o) {p : Nat} (hp : p < s0) (u0 u1 u2 u3 u4 : Value) :
    CopyV s0 (((((w.setCell ⟨p, 0, none⟩ u0).setCell ⟨p, 1, none⟩ u1).setCell ⟨p, 2, none⟩ u2).setCell ⟨p, 3, none⟩ u3).setCell ⟨p, 4, none⟩ u4) v o :=
  ((((h.far _ _ _ hp).far _ _ _ hp).far _ _ _ hp).far _ _ _ hp).far _ _ _ hp
theorem Mut.sets {lo hi : Nat} {cv tv : Value} {nc nt : Nat} {avs : Nat → Value} {ns : Nat → Nat} {w : World} (h : Mut lo hi cv tv nc nt avs ns w) {p : Nat} (hp : p < lo ∨ hi ≤ p) (u0 u1 u2 u3 u4 : Value) :
    Mut lo hi cv tv nc nt avs ns (((((w.setCell ⟨p, 0, none⟩ u0).setCell ⟨p, 1, none⟩ u1).setCell ⟨p, 2, none⟩ u2).setCell ⟨p, 3, none⟩ u3).setCell ⟨p, 4, none⟩ u4) :=
  ((((h.far _ _ _ hp).far _ _ _ hp).far _ _ _ hp).far _ _ _ hp).far _ _ _ hp
theorem Ext.sets {w0 w : World} (h : Ext w0 w) {p : Nat} (hp : w0.heap.size ≤ p) (u0 u1 u2 u3 u4 : Value) :
    Ext w0 (((((w.setCell ⟨p, 0, none⟩ u0).setCell ⟨p, 1, none⟩ u1).setCell ⟨p, 2, none⟩ u2).setCell ⟨p, 3, none⟩ u3).setCell ⟨p, 4, none⟩ u4) :=
  ((((h.setCell (p := ⟨p, 0, none⟩) hp _).setCell (p := ⟨p, 1, none⟩) hp _).setCell (p := ⟨p, 2, none⟩) hp _).setCell (p := ⟨p, 3, none⟩) hp _).setCell (p := ⟨p, 4, none⟩) hp _
theorem Blk.sets {w : World} {b : Nat} {x0 x1 x2 x3 x4 : Value} {t : TypeId} (h : Blk w b #[x0, x1, x2, x3, x4] t) (u0 u1 u2 u3 u4 : Value) :
    Blk (((((w.setCell ⟨b, 0, none⟩ u0).setCell ⟨b, 1, none⟩ u1).setCell ⟨b, 2, none⟩ u2).setCell ⟨b, 3, none⟩ u3).setCell ⟨b, 4, none⟩ u4) b #[u0, u1, u2, u3, u4] t := by
  have := ((((h.set 0 u0).set 1 u1).set 2 u2).set 3 u3).set 4 u4
  simpa using this
theorem Blk.offs {w : World} {b : Nat} {cs : Array Value} {t : TypeId} (h : Blk w b cs t) {p : Nat} (hp : b ≠ p) (u0 u1 u2 u3 u4 : Value) :
    Blk (((((w.setCell ⟨p, 0, none⟩ u0).setCell ⟨p, 1, none⟩ u1).setCell ⟨p, 2, none⟩ u2).setCell ⟨p, 3, none⟩ u3).setCell ⟨p, 4, none⟩ u4) b cs t :=
  ((((h.far _ _ _ hp).far _ _ _ hp).far _ _ _ hp).far _ _ _ hp).far _ _ _ hp
theorem Blk.five {w : World} {b : Nat} {x0 x1 x2 x3 x4 : Value} {t : TypeId} (h : Blk w b #[x0, x1, x2, x3, x4] t) : Box5 w b x0 x1 x2 x3 x4 := ⟨h.cell 0, h.cell 1, h.cell 2, h.cell 3, h.cell 4⟩

section
variable {W3 w2 : World} {a : Oc} {lo hi s2 : Nat} {cv tv kc kt : Value} {avs : Nat → Value} {ns : Nat → Nat} (h : Ext W3 w2) (m : Mut lo hi cv tv a.ctx.length a.tr.length avs ns w2)
  (c : CopyV s2 w2 (.agg #[.int .i8 a.kind, .int .u64 a.r0, kc, kt, .int .i64 a.left]) a) (h1 : W3.heap.size ≤ lo) (h2 : hi ≤ s2) (h3 : hi ≤ w2.heap.size)
include h m c h1 h2 h3
theorem leafA : LK W3 a w2.heap.size (w2.heap.size + 1) lo hi cv tv kc kt avs ns ((w2.alloc (.cells #[.int .i8 a.kind, .int .u64 a.r0, cv, tv, .int .i64 a.left] 31)).alloc (.cells #[.int .i8 a.kind, .int .u64 a.r0, kc, kt, .int .i64 a.left] 31)) := by
  obtain ⟨b1, b2⟩ := new_two (Ext.refl ((w2.alloc (.cells #[.int .i8 a.kind, .int .u64 a.r0, cv, tv, .int .i64 a.left] 31)).alloc (.cells #[.int .i8 a.kind, .int .u64 a.r0, kc, kt, .int .i64 a.left] 31)))
  exact ⟨(h.alloc _).alloc _, b1.five, b2.five, ((c.ext ((Ext.refl _).alloc _)).ext ((Ext.refl _).alloc _)).mono h2, (m.ext ((Ext.refl _).alloc _)).ext ((Ext.refl _).alloc _), h1, .inr h3, .inr (by omega)⟩
theorem leafA' : LK W3 a (w2.heap.size + 1) w2.heap.size lo hi cv tv kc kt avs ns ((w2.alloc (.cells #[.int .i8 a.kind, .int .u64 a.r0, kc, kt, .int .i64 a.left] 31)).alloc (.cells #[.int .i8 a.kind, .int .u64 a.r0, cv, tv, .int .i64 a.left] 31)) := by
  obtain ⟨b1, b2⟩ := new_two (Ext.refl ((w2.alloc (.cells #[.int .i8 a.kind, .int .u64 a.r0, kc, kt, .int .i64 a.left] 31)).alloc (.cells #[.int .i8 a.kind, .int .u64 a.r0, cv, tv, .int .i64 a.left] 31)))
  exact ⟨(h.alloc _).alloc _, b2.five, b1.five, ((c.ext ((Ext.refl _).alloc _)).ext ((Ext.refl _).alloc _)).mono h2, (m.ext ((Ext.refl _).alloc _)).ext ((Ext.refl _).alloc _), h1, .inr (by omega), .inr h3⟩
theorem leafB {p : Nat} {x0 x1 x2 x3 x4 : Value} {t : TypeId} (b : Blk w2 p #[x0, x1, x2, x3, x4] t) (h4 : p < s2) (h5 : p < lo ∨ hi ≤ p) (h6 : W3.heap.size ≤ p) :
    LK W3 a p w2.heap.size lo hi cv tv kc kt avs ns ((((((w2.setCell ⟨p, 0, none⟩ (.int .i8 a.kind)).setCell ⟨p, 1, none⟩ (.int .u64 a.r0)).setCell ⟨p, 2, none⟩ cv).setCell ⟨p, 3, none⟩ tv).setCell ⟨p, 4, none⟩ (.int .i64 a.left)).alloc (.cells #[.int .i8 a.kind, .int .u64 a.r0, kc, kt, .int .i64 a.left] 31)) := by
  have b1 := new_one (Ext.refl ((((((w2.setCell ⟨p, 0, none⟩ (.int .i8 a.kind)).setCell ⟨p, 1, none⟩ (.int .u64 a.r0)).setCell ⟨p, 2, none⟩ cv).setCell ⟨p, 3, none⟩ tv).setCell ⟨p, 4, none⟩ (.int .i64 a.left)).alloc (.cells #[.int .i8 a.kind, .int .u64 a.r0, kc, kt, .int .i64 a.left] 31)))
  have b2 := b.sets (.int .i8 a.kind) (.int .u64 a.r0) cv tv (.int .i64 a.left)
  have hsz : ∀ u0 u1 u2 u3 u4 : Value, (((((w2.setCell ⟨p, 0, none⟩ u0).setCell ⟨p, 1, none⟩ u1).setCell ⟨p, 2, none⟩ u2).setCell ⟨p, 3, none⟩ u3).setCell ⟨p, 4, none⟩ u4).heap.size = w2.heap.size := fun _ _ _ _ _ => by simp [World.setCell]
  rw [hsz] at b1
  exact ⟨(h.sets h6 _ _ _ _ _).alloc _, (b2.ext ((Ext.refl _).alloc _)).five, b1.five, ((c.sets h4 _ _ _ _ _).ext ((Ext.refl _).alloc _)).mono h2, (m.sets h5 _ _ _ _ _).ext ((Ext.refl _).alloc _), h1, h5, .inr h3⟩
theorem leafB' {p : Nat} {x0 x1 x2 x3 x4 : Value} {t : TypeId} (b : Blk w2 p #[x0, x1, x2, x3, x4] t) (h4 : p < s2) (h5 : p < lo ∨ hi ≤ p) (h6 : W3.heap.size ≤ p) :
    LK W3 a w2.heap.size p lo hi cv tv kc kt avs ns ((((((w2.setCell ⟨p, 0, none⟩ (.int .i8 a.kind)).setCell ⟨p, 1, none⟩ (.int .u64 a.r0)).setCell ⟨p, 2, none⟩ kc).setCell ⟨p, 3, none⟩ kt).setCell ⟨p, 4, none⟩ (.int .i64 a.left)).alloc (.cells #[.int .i8 a.kind, .int .u64 a.r0, cv, tv, .int .i64 a.left] 31)) := by
  have b1 := new_one (Ext.refl ((((((w2.setCell ⟨p, 0, none⟩ (.int .i8 a.kind)).setCell ⟨p, 1, none⟩ (.int .u64 a.r0)).setCell ⟨p, 2, none⟩ kc).setCell ⟨p, 3, none⟩ kt).setCell ⟨p, 4, none⟩ (.int .i64 a.left)).alloc (.cells #[.int .i8 a.kind, .int .u64 a.r0, cv, tv, .int .i64 a.left] 31)))
  have b2 := b.sets (.int .i8 a.kind) (.int .u64 a.r0) kc kt (.int .i64 a.left)
  have hsz : ∀ u0 u1 u2 u3 u4 : Value, (((((w2.setCell ⟨p, 0, none⟩ u0).setCell ⟨p, 1, none⟩ u1).setCell ⟨p, 2, none⟩ u2).setCell ⟨p, 3, none⟩ u3).setCell ⟨p, 4, none⟩ u4).heap.size = w2.heap.size := fun _ _ _ _ _ => by simp [World.setCell]
  rw [hsz] at b1
  exact ⟨(h.sets h6 _ _ _ _ _).alloc _, b1.five, (b2.ext ((Ext.refl _).alloc _)).five, ((c.sets h4 _ _ _ _ _).ext ((Ext.refl _).alloc _)).mono h2, (m.sets h5 _ _ _ _ _).ext ((Ext.refl _).alloc _), h1, .inr h3, h5⟩
omit h3 in
theorem leafC {p q : Nat} {x0 x1 x2 x3 x4 y0 y1 y2 y3 y4 : Value} {t u : TypeId} (b : Blk w2 p #[x0, x1, x2, x3, x4] t) (b' : Blk w2 q #[y0, y1, y2, y3, y4] u) (h4 : p < s2) (h5 : p < lo ∨ hi ≤ p) (h6 : W3.heap.size ≤ p) (h7 : q < s2) (h8 : q < lo ∨ hi ≤ q) (h9 : W3.heap.size ≤ q) (hpq : p ≠ q) :
    LK W3 a p q lo hi cv tv kc kt avs ns ((((((((((w2.setCell ⟨p, 0, none⟩ (.int .i8 a.kind)).setCell ⟨p, 1, none⟩ (.int .u64 a.r0)).setCell ⟨p, 2, none⟩ cv).setCell ⟨p, 3, none⟩ tv).setCell ⟨p, 4, none⟩ (.int .i64 a.left)).setCell
      ⟨q, 0, none⟩ (.int .i8 a.kind)).setCell ⟨q, 1, none⟩ (.int .u64 a.r0)).setCell ⟨q, 2, none⟩ kc).setCell ⟨q, 3, none⟩ kt).setCell ⟨q, 4, none⟩ (.int .i64 a.left)) := by
  have b2 := (b.sets (.int .i8 a.kind) (.int .u64 a.r0) cv tv (.int .i64 a.left)).offs hpq (.int .i8 a.kind) (.int .u64 a.r0) kc kt (.int .i64 a.left)
  have b3 := (b'.offs (Ne.symm hpq) (.int .i8 a.kind) (.int .u64 a.r0) cv tv (.int .i64 a.left)).sets (.int .i8 a.kind) (.int .u64 a.r0) kc kt (.int .i64 a.left)
  exact ⟨(h.sets h6 _ _ _ _ _).sets h9 _ _ _ _ _, b2.five, b3.five, ((c.sets h4 _ _ _ _ _).sets h7 _ _ _ _ _).mono h2, (m.sets h5 _ _ _ _ _).sets h8 _ _ _ _ _, h1, h5, h8⟩
end
end Go.Proofs.Yteheidiiigjglaa
