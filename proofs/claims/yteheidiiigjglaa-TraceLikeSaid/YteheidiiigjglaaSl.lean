/- Slices of integers that read as a list, and what keeps them. -/
import Derived.Test.YteheidiiigjglaaLib
import Derived.ChangeSlices
import Derived.ChangeSame
import Derived.Laws.AppendOwn
namespace Go.Proofs.Yteheidiiigjglaa
open Go.RowKit Go.ChangeShapes Go.WideShapes

theorem Ext.grown {w0 w w' : World} {row : Option Nat} (h : Ext w0 w) (hg : w.grownBy w' row) (hr : ∀ k, row = some k → w0.heap.size ≤ k) : Ext w0 w' := Below.grown h hg h.size hr
/-- The value v is a slice that reads as the list l of integers of kind k. -/
def SlI (k : IntKind) (w : World) (v : Value) (l : List Int) : Prop :=
  ∃ oa cap, v = .slice oa l.length cap ∧ l.length ≤ cap ∧ cap ≤ maxLen ∧ (oa = none → cap = 0) ∧
    (0 < l.length → ∃ b off, oa = some ⟨b, off, none⟩ ∧ ∀ i, i < l.length → w.cell? ⟨b, off + i, none⟩ = some (.int k (l.getD i 0)))

theorem SlI.ext {k : IntKind} {w w' : World} {v : Value} {l : List Int} (h : SlI k w v l) (hx : Ext w w') : SlI k w' v l := by
  obtain ⟨oa, cap, hv, hl, hm, hn, hc⟩ := h
  refine ⟨oa, cap, hv, hl, hm, hn, fun hp => ?_⟩
  obtain ⟨b, off, ho, hcell⟩ := hc hp
  exact ⟨b, off, ho, fun i hi => hx.cell (hcell i hi)⟩
theorem SlI.nil (k : IntKind) (w : World) : SlI k w (.slice none 0 0) [] := ⟨none, 0, rfl, Nat.le_refl _, by simp [maxLen], fun _ => rfl, fun h => absurd h (by simp)⟩
theorem SlI.of_own {k : IntKind} {w : World} {base e : Nat} {v : Value} {l : List Int} (h : w.ownsRow base e 1 v l.length (l.map (Value.int k))) : SlI k w v l := by
  obtain ⟨hl, h⟩ := h
  rcases h with ⟨rfl, h0⟩ | ⟨g, cap, cur, rfl, hb, hg, hn, hm, hs, ht⟩
  · obtain rfl : l = [] := List.length_eq_zero_iff.1 h0
    exact SlI.nil k w
  · refine ⟨_, _, rfl, hn, hm, (fun h => by cases h), fun _ => ⟨g, 0, rfl, fun i hi => ?_⟩⟩
    rw [cell_of_row w g (0 + i) cur e (0, 0) hg, Nat.zero_add]
    have h1 : (cur.toList.take (l.length * 1))[i]? = (l.map (Value.int k))[i]? := by rw [ht]
    rw [Nat.mul_one, List.getElem?_take, if_pos hi] at h1
    rw [← Array.getElem?_toList, h1]
    simp [hi, List.getD]
/-- An argument that is a slice of integers. -/
theorem SlI.of_trod {H : Type} {enc : TypeId × Value → H} {P : Program} {W : World} {sp : Nat → Bool} {hd : Bool} {t e : TypeId} {k : IntKind} {v : Value} {d : DataW H} {p : List MemPlace} (ht : P.underlying t = some (.slice e)) (he : P.underlying e = some (.int k)) (hc : P.cellsOf e = 1)
    (h : DataW.Trod enc P W 0 sp hd t v d p) (hv : v.cells = #[v]) : ∃ l, SlI k W v l ∧ ∀ x ∈ l, (Lit.int k x).wf = true := by
  obtain ⟨fuel, hf⟩ := h
  rw [hv] at hf
  rcases open_ints ht he hc hf with ⟨hcs, hx⟩ | ⟨a, len, cap, zs, hcs, _, hl, hm, hz, hx, hcell, hw⟩
  · obtain rfl : v = .slice none 0 0 := by simpa using hcs
    exact ⟨[], SlI.nil k W, by simp⟩
  · obtain rfl : v = .slice (some a) len cap := by simpa using hcs
    have hlz : len ≤ zs.length := by rw [hz]; split <;> omega
    have hlen : (zs.take len).length = len := by simp; omega
    refine ⟨zs.take len, ⟨some a, cap, by rw [hlen], by omega, hm, (fun h => by cases h), fun hp => ?_⟩, fun x hx => hw x (List.mem_of_mem_take hx)⟩
    rw [hlen] at hp ⊢
    have h0 := hcell 0 (by omega)
    obtain ⟨b, off, spot⟩ := a
    have hs : spot = none := by
      cases spot with
      | none => rfl
      | some s =>
        exfalso
        simp [Addr.add, World.cell?] at h0
        split at h0 <;> simp at h0
    subst hs
    refine ⟨b, off, rfl, fun i hi => ?_⟩
    have h1 := hcell i (by omega)
    rw [add_plain] at h1
    rw [h1]
    simp [List.getD, List.getElem?_take, hi]
theorem SlI.of_arg {H : Type} {enc : TypeId × Value → H} {P : Program} {W : World} {sp : Nat → Bool} {hd : Bool} {r : Reach} {b0 : Nat} {t e : TypeId} {k : IntKind} {v : Value} {d : DataW H} {p : List MemPlace} (ht : P.underlying t = some (.slice e)) (he : P.underlying e = some (.int k)) (hc : P.cellsOf e = 1)
    (hv : Value.okWide P W r b0 t v) (h : DataW.Trod enc P W 0 sp hd t v d p) : ∃ l, SlI k W v l ∧ ∀ x ∈ l, (Lit.int k x).wf = true := by
  obtain ⟨a0, len, cap, rfl⟩ := okWide_slice ht hv
  exact SlI.of_trod ht he hc h rfl
end Go.Proofs.Yteheidiiigjglaa
