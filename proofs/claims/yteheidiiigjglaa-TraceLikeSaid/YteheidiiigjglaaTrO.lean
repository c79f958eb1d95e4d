/- Arguments that are events and outcomes, opened; the walk of the reference's Great. -/
import Derived.Test.YteheidiiigjglaaTrE
import Derived.Test.YteheidiiigjglaaRep
namespace Go.Proofs.Yteheidiiigjglaa
open Go.RowKit Go.ChangeShapes Go.WideShapes

theorem SlI.of_rep {P : Program} {w : World} {t e : TypeId} {k : IntKind} {v : Value} {l : List Int} {he : P.underlying e = some (.int k)} {hce : P.cellsOf e = 1} {ht : P.underlying t = some (.slice e)} {hct : P.cellsOf t = 1}
    (h : (Rep.slice (Rep.int k he hce) ht hct).rd w [v] l) : SlI k w v l ∧ ∀ x ∈ l, (Lit.int k x).wf = true := by
  obtain ⟨oa, cap, h1, h2, h3, h4, h5⟩ := h
  obtain rfl : v = .slice oa l.length cap := by simpa using h1
  refine ⟨⟨oa, cap, rfl, h2, h3, h4, fun hl => ?_⟩, fun x hx => ?_⟩
  · obtain ⟨b, off, ho, hi⟩ := h5 hl (by show 0 < 1; omega)
    refine ⟨b, off, ho, fun i hil => ?_⟩
    obtain ⟨ec, hc, hr⟩ := hi i _ (List.getElem?_eq_getElem hil)
    obtain ⟨rfl, _⟩ := hr
    have := hc 0 _ rfl
    simp only [Rep.int, Nat.mul_one, Nat.add_zero] at this
    rw [this]
    simp [List.getD, hil]
  · obtain ⟨i, hil, rfl⟩ := List.getElem_of_mem hx
    obtain ⟨b, off, ho, hi⟩ := h5 (by omega) (by show 0 < 1; omega)
    obtain ⟨ec, hc, hr⟩ := hi i _ (List.getElem?_eq_getElem hil)
    exact hr.2

def repInt : Rep Try.prog 3 Int := Rep.int .i64 Try.underlying3 (by kernel_rfl)
def repI8 : Rep Try.prog 27 Int := Rep.int .i8 Try.underlying27 (by kernel_rfl)
def repU64 : Rep Try.prog 28 Int := Rep.int .u64 Try.underlying28 (by kernel_rfl)
def repU8 : Rep Try.prog 5 Int := Rep.int .u8 Try.underlying5 (by kernel_rfl)
def repU64s : Rep Try.prog 38 (List Int) := Rep.slice repU64 Try.underlying38 (by kernel_rfl)
def repU8s : Rep Try.prog 29 (List Int) := Rep.slice repU8 Try.underlying29 (by kernel_rfl)
def repEv : Rep Try.prog 40 Ev :=
  Rep.map (Rep.struct (RepSeq.cons repInt rfl (RepSeq.cons repU64s rfl (RepSeq.cons repU64 rfl (RepSeq.nil _ _)))) Try.underlying40 (by kernel_rfl)) (fun x => ⟨x.1, x.2.1, x.2.2.1⟩)
def repEvs : Rep Try.prog 22 (List Ev) := Rep.slice repEv Try.underlying22 (by kernel_rfl)
def repOc : Rep Try.prog 31 Oc :=
  Rep.map (Rep.struct (RepSeq.cons repI8 rfl (RepSeq.cons repU64 rfl (RepSeq.cons repU8s rfl (RepSeq.cons repEvs rfl (RepSeq.cons repInt rfl (RepSeq.nil _ _)))))) Try.underlying31 (by kernel_rfl)) (fun x => ⟨x.1, x.2.1, x.2.2.1, x.2.2.2.1, x.2.2.2.2.1⟩)

theorem SlE.of_rep {w : World} {v : Value} {l : List Ev} (h : repEvs.rd w [v] l) : SlE w v l := by
  obtain ⟨oa, cap, h1, h2, h3, h4, h5⟩ := h
  obtain rfl : v = .slice oa l.length cap := by simpa using h1
  refine ⟨oa, cap, rfl, h2, h3, h4, fun hl => ?_⟩
  obtain ⟨b, off, ho, hi⟩ := h5 hl (by show 0 < 3; omega)
  refine ⟨b, off, ho, fun i hil => ?_⟩
  obtain ⟨ec, hc, y, hy, c1, c2, rfl, ⟨hn, _⟩, c3, c4, rfl, hs, c5, c6, rfl, ⟨hr, _⟩, hnil⟩ := hi i _ (List.getElem?_eq_getElem hil)
  have hs3 := (Rep.slice repU64 Try.underlying38 (by kernel_rfl)).len hs
  obtain ⟨av, rfl⟩ : ∃ av, c3 = [av] := by
    match c3, hs3 with
    | [av], _ => exact ⟨av, rfl⟩
  rw [hn, hr] at hc
  have e : l.getD i default = l[i] := by simp [List.getD, hil]
  rw [e, hy]
  exact ⟨av, hc 0 _ rfl, hc 1 _ rfl, hc 2 _ rfl, (SlI.of_rep hs).1⟩

theorem OcV.of_rep {w : World} {cs : List Value} {o : Oc} (h : repOc.rd w cs o) : OcV w (.agg cs.toArray) o := by
  obtain ⟨y, rfl, c1, c2, rfl, ⟨rfl, _⟩, c3, c4, rfl, ⟨rfl, _⟩, c5, c6, rfl, hb, c7, c8, rfl, hE, c9, c10, rfl, ⟨rfl, _⟩, hnil⟩ := h
  obtain rfl : c10 = [] := hnil
  obtain ⟨bv, rfl⟩ : ∃ av, c5 = [av] := by
    match c5, repU8s.len hb with
    | [av], _ => exact ⟨av, rfl⟩
  obtain ⟨ev, rfl⟩ : ∃ av, c7 = [av] := by
    match c7, repEvs.len hE with
    | [av], _ => exact ⟨av, rfl⟩
  have hb' := SlI.of_rep hb
  exact ⟨bv, ev, rfl, hb'.1, SlE.of_rep hE, fun x hx => by simpa [Lit.wf, IntKind.min, IntKind.max, IntKind.signed, IntKind.bits] using hb'.2 x hx⟩

/-- An argument that is a slice of events; one that is an outcome. -/
theorem SlE.of_arg {H : Type} {enc : TypeId × Value → H} {W : World} {r : Reach} {b0 : Nat} {v : Value} {d : DataW H} {p : List MemPlace}
    (hv : Value.okWide Try.prog W r b0 22 v) (h : DataW.Trod enc Try.prog W 0 (fun _ => true) true 22 v d p) : ∃ l, SlE W v l := by
  obtain ⟨l, hl⟩ := repEvs.arg h
  obtain ⟨a0, len, cap, rfl⟩ := okWide_slice Try.underlying22 hv
  exact ⟨l, SlE.of_rep hl⟩
theorem OcV.of_arg {H : Type} {enc : TypeId × Value → H} {W : World} {r : Reach} {b0 : Nat} {v : Value} {d : DataW H} {p : List MemPlace}
    (hv : Value.okWide Try.prog W r b0 31 v) (h : DataW.Trod enc Try.prog W 0 (fun _ => true) true 31 v d p) : ∃ o, OcV W v o := by
  obtain ⟨o, ho⟩ := repOc.arg h
  obtain ⟨cs, rfl, _⟩ := okWide_struct Try.underlying31 hv
  exact ⟨o, by simpa [Value.cells] using OcV.of_rep ho⟩

def zgreat (o : Oc) : Bool := decide (100 < o.tr.length) || decide (1000 < o.ctx.length) || o.tr.any (fun e => decide (20 < e.args.length))
theorem any_none {l : List Ev} {q : Ev → Bool} (h : ∀ i, i < l.length → q (l.getD i default) = false) : l.any q = false := by
  rw [List.any_eq_false]
  intro e he
  obtain ⟨i, hi, rfl⟩ := List.getElem_of_mem he
  have := h i hi
  simpa [List.getD, hi] using this
theorem any_at {l : List Ev} {q : Ev → Bool} {i : Nat} (hi : i < l.length) (h : q (l.getD i default) = true) : l.any q = true := by
  rw [List.any_eq_true]
  exact ⟨l[i], List.getElem_mem hi, by simpa [List.getD, hi] using h⟩
end Go.Proofs.Yteheidiiigjglaa
