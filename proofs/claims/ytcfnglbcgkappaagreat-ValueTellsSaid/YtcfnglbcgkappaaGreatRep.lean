/- What an argument reads as, type by type: readers that are put together; each opens the form's own reading of an argument. Nothing of the program is in here. -/
import Derived.Test.YtcfnglbcgkappaaGreatLib
import Derived.ChangeSlices
import Derived.ChangeSame
import Derived.ChangeArms
import Derived.Deep.Slices
set_option linter.unusedVariables false
set_option linter.unusedSimpArgs false
namespace Go.Proofs.YtcfnglbcgkappaaGreat
open Go.RowKit Go.ChangeShapes Go.WideShapes

theorem list_of {α : Type} {n : Nat} {Q : Nat → α → Prop} (h : ∀ i, i < n → ∃ x, Q i x) : ∃ l : List α, l.length = n ∧ ∀ i x, l[i]? = some x → Q i x := by
  induction n with
  | zero => exact ⟨[], rfl, by simp⟩
  | succ n ih =>
    obtain ⟨l, hl, hq⟩ := ih (fun i hi => h i (by omega))
    obtain ⟨x, hx⟩ := h n (by omega)
    refine ⟨l ++ [x], by simp [hl], fun i y hy => ?_⟩
    rw [List.getElem?_append] at hy
    split at hy
    · exact hq i y hy
    · have : i = n := by
        rcases Nat.lt_or_ge (i - l.length) 1 with h1 | h1
        · omega
        · rw [List.getElem?_eq_none (by simpa using h1)] at hy; cases hy
      subst this
      have : i - l.length = 0 := by omega
      rw [this] at hy
      simp at hy
      subst hy
      exact hx

/-- A reader of type t: how many cells, what they read as. -/
structure Rep (P : Program) (t : TypeId) (α : Type) where
  size : Nat
  rd : World → List Value → α → Prop
  ext : ∀ {w w' : World} {cs : List Value} {x : α}, Ext w w' → rd w cs x → rd w' cs x
  len : ∀ {w : World} {cs : List Value} {x : α}, rd w cs x → cs.length = size
  cells : P.cellsOf t = size
  opn : ∀ {H : Type} {enc : TypeId × Value → H} {W : World} {sp : Nat → Bool} {hd : Bool} {fuel : Nat} {cs : List Value} {d : DataW H × List MemPlace},
    DataW.trod enc P W 0 sp hd fuel t cs = some d → ∃ x, rd W cs x

def Rep.int {P : Program} {t : TypeId} (k : IntKind) (ht : P.underlying t = some (.int k)) (hc : P.cellsOf t = 1) : Rep P t Int where
  size := 1
  rd := fun _ cs x => cs = [.int k x] ∧ (Lit.int k x).wf = true
  ext := fun _ h => h
  len := fun h => by rw [h.1]; rfl
  cells := hc
  opn := fun h => by
    obtain ⟨x, h1, _, h2⟩ := DataW.trod_int ht h
    exact ⟨x, h1, h2⟩

def Rep.bool {P : Program} {t : TypeId} (ht : P.underlying t = some .bool) (hc : P.cellsOf t = 1) : Rep P t Bool where
  size := 1
  rd := fun _ cs x => cs = [.bool x]
  ext := fun _ h => h
  len := fun h => by rw [h]; rfl
  cells := hc
  opn := fun h => by
    obtain ⟨x, h1, _⟩ := DataW.trod_bool ht h
    exact ⟨x, h1⟩

def Rep.slice {P : Program} {t e : TypeId} {α : Type} (r : Rep P e α) (ht : P.underlying t = some (.slice e)) (hc : P.cellsOf t = 1) : Rep P t (List α) where
  size := 1
  rd := fun w cs l => ∃ oa cap, cs = [.slice oa l.length cap] ∧ l.length ≤ cap ∧ cap ≤ maxLen ∧ (oa = none → cap = 0) ∧
    (0 < l.length → 0 < r.size → ∃ b off, oa = some ⟨b, off, none⟩ ∧ ∀ i x, l[i]? = some x → ∃ ec, (∀ j v, ec[j]? = some v → w.cell? ⟨b, off + i * r.size + j, none⟩ = some v) ∧ r.rd w ec x)
  ext := fun hx ⟨oa, cap, h1, h2, h3, h4, h5⟩ => ⟨oa, cap, h1, h2, h3, h4, fun hl hs => by
    obtain ⟨b, off, ho, hi⟩ := h5 hl hs
    refine ⟨b, off, ho, fun i x hx' => ?_⟩
    obtain ⟨ec, hc, hr⟩ := hi i x hx'
    exact ⟨ec, fun j v hj => hx.cell (hc j v hj), r.ext hx hr⟩⟩
  len := fun ⟨oa, cap, h1, _⟩ => by rw [h1]; rfl
  cells := hc
  opn := fun {H} {enc} {W} {sp} {hd} {fuel} {cs} {d} h => by
    rcases Go.Deep.open_slice ht h with ⟨rfl, _⟩ | ⟨a, len, cap, m, n, D, Pl, rfl, _, hl, hm, hmm, _, hel⟩
    · exact ⟨[], none, 0, rfl, Nat.le_refl _, by simp [maxLen], fun _ => rfl, fun h => absurd h (by simp)⟩
    · have hlm : len ≤ m := by rw [hmm]; split <;> omega
      rw [r.cells] at hel
      have key : ∀ i, i < len → ∃ x, ∃ ec, W.cells? 0 (a.add (i * r.size)) r.size = some ec ∧ r.rd W ec x := fun i hi => by
        obtain ⟨cs', h1, h2⟩ := hel i (by omega)
        obtain ⟨x, hx⟩ := r.opn h2
        exact ⟨x, cs', h1, hx⟩
      obtain ⟨l, hll, hlq⟩ := list_of key
      refine ⟨l, some a, cap, by rw [hll], by omega, hm, (fun h => by cases h), fun hl0 hs0 => ?_⟩
      obtain ⟨x0, ec0, h0, _⟩ := key 0 (by omega)
      obtain ⟨b, off, spot⟩ := a
      have hs : spot = none := by
        obtain ⟨_, hlen0, hat0⟩ := World.cells?_some h0
        have := hat0 0 hs0
        cases spot with
        | none => rfl
        | some s =>
          exfalso
          simp [Addr.add, World.cell?] at this
          rw [List.getElem?_eq_getElem (by omega)] at this
          split at this <;> simp at this
      subst hs
      refine ⟨b, off, rfl, fun i x hx => ?_⟩
      obtain ⟨ec, he, hr⟩ := hlq i x hx
      obtain ⟨_, hlen, hat⟩ := World.cells?_some he
      refine ⟨ec, fun j v hj => ?_, hr⟩
      have hjl : j < r.size := by
        rcases Nat.lt_or_ge j ec.length with h | h
        · omega
        · rw [List.getElem?_eq_none h] at hj; cases hj
      rw [← hj, ← hat j hjl, add_plain, add_plain]

def Rep.map {P : Program} {t : TypeId} {α β : Type} (r : Rep P t α) (f : α → β) : Rep P t β where
  size := r.size
  rd := fun w cs y => ∃ x, y = f x ∧ r.rd w cs x
  ext := fun hx ⟨x, h1, h2⟩ => ⟨x, h1, r.ext hx h2⟩
  len := fun ⟨_, _, h2⟩ => r.len h2
  cells := r.cells
  opn := fun h => let ⟨x, hx⟩ := r.opn h; ⟨f x, x, rfl, hx⟩

/-- A reader of a struct's fields from the cell 'off' on. -/
structure RepSeq (P : Program) (off : Nat) (fs : List Field) (α : Type) where
  size : Nat
  rd : World → List Value → α → Prop
  ext : ∀ {w w' : World} {cs : List Value} {x : α}, Ext w w' → rd w cs x → rd w' cs x
  len : ∀ {w : World} {cs : List Value} {x : α}, rd w cs x → cs.length = size
  opn : ∀ {H : Type} {enc : TypeId × Value → H} {W : World} {sp : Nat → Bool} {hd : Bool} {n : Nat} {cs : List Value},
    (∀ f ∈ fs, ∃ y, DataW.trod enc P W 0 sp hd n f.type ((cs.drop f.offset).take (P.cellsOf f.type)) = some y) → cs.length = off + size → ∃ x, rd W (cs.drop off) x

def RepSeq.nil (P : Program) (off : Nat) : RepSeq P off [] Unit where
  size := 0
  rd := fun _ cs _ => cs = []
  ext := fun _ h => h
  len := fun h => by rw [h]; rfl
  opn := fun _ hl => ⟨(), List.drop_eq_nil_of_le (by omega)⟩

def RepSeq.cons {P : Program} {off : Nat} {f : Field} {fs : List Field} {α β : Type} (r : Rep P f.type α) (ho : f.offset = off) (s : RepSeq P (off + r.size) fs β) : RepSeq P off (f :: fs) (α × β) where
  size := r.size + s.size
  rd := fun w cs x => ∃ c1 c2, cs = c1 ++ c2 ∧ r.rd w c1 x.1 ∧ s.rd w c2 x.2
  ext := fun hx ⟨c1, c2, h1, h2, h3⟩ => ⟨c1, c2, h1, r.ext hx h2, s.ext hx h3⟩
  len := fun ⟨c1, c2, h1, h2, h3⟩ => by rw [h1, List.length_append, r.len h2, s.len h3]
  opn := fun {H} {enc} {W} {sp} {hd} {n} {cs} h hl => by
    obtain ⟨y, hy⟩ := h f (by simp)
    rw [r.cells, ho] at hy
    obtain ⟨a, ha⟩ := r.opn hy
    obtain ⟨b, hb⟩ := s.opn (fun g hg => h g (by simp [hg])) (by omega)
    refine ⟨(a, b), (cs.drop off).take r.size, cs.drop (off + r.size), ?_, ha, hb⟩
    rw [← List.drop_drop, List.take_append_drop]

def Rep.struct {P : Program} {t : TypeId} {fs : Array Field} {α : Type} (s : RepSeq P 0 fs.toList α) (ht : P.underlying t = some (.struct fs)) (hc : P.cellsOf t = s.size) : Rep P t α where
  size := s.size
  rd := s.rd
  ext := s.ext
  len := s.len
  cells := hc
  opn := fun {H} {enc} {W} {sp} {hd} {fuel} {cs} {d} h => by
    obtain ⟨xs, n, _, _, hl, hlen, hf⟩ := DataW.trod_struct ht h
    have := s.opn (enc := enc) (W := W) (sp := sp) (hd := hd) (n := n) (cs := cs) (fun f hm => by
      obtain ⟨i, hi, he⟩ := List.getElem_of_mem hm
      have hi' : i < fs.size := by simpa using hi
      have h1 := hf i f (by rw [Array.getElem?_eq_getElem hi']; simpa using congrArg some he)
      rw [List.getElem?_eq_getElem (by omega)] at h1
      exact ⟨_, h1⟩) (by omega)
    simpa using this

/-- An argument's value and its reading. -/
theorem Rep.arg {P : Program} {t : TypeId} {α : Type} (r : Rep P t α) {H : Type} {enc : TypeId × Value → H} {W : World} {sp : Nat → Bool} {hd : Bool} {v : Value} {d : DataW H} {p : List MemPlace}
    (h : DataW.Trod enc P W 0 sp hd t v d p) : ∃ x, r.rd W v.cells.toList x := by
  obtain ⟨fuel, hf⟩ := h
  exact r.opn hf
end Go.Proofs.YtcfnglbcgkappaaGreat
