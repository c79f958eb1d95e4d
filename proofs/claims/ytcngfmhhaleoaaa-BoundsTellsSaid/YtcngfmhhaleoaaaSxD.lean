/- The model's operation does what the symbolic run says. Nothing of the program is in here. -/
import Derived.Test.YtcngfmhhaleoaaaSxC
import Derived.Calls
set_option linter.unusedVariables false
set_option linter.unusedSimpArgs false
namespace Go.Proofs.Ytcngfmhhaleoaaa
open Go.RowKit

def RdOk (ρ : Env) (j : Nat → Option Nat) (w : World) (ld : Nat → Nat → Option C) (rd : List (Nat × Nat)) : Prop :=
  ∀ p ∈ rd, ∀ c, ld p.1 p.2 = some c → ∃ k v, j p.1 = some k ∧ c.den ρ j = some v ∧ w.cell? ⟨k, p.2, none⟩ = some v
def WrOk (j : Nat → Option Nat) (w : World) (wr : List (Nat × Nat × C)) : Prop :=
  ∀ p ∈ wr, ∃ k u, j p.1 = some k ∧ w.cell? ⟨k, p.2.1, none⟩ = some u ∧ w.frozen? ⟨k, p.2.1, none⟩ = false
def Writes (ρ : Env) (j : Nat → Option Nat) : List (Nat × Nat × C) → World → World → Prop
  | [], w, w' => w' = w
  | (b, o, c) :: l, w, w' => ∃ k v, j b = some k ∧ c.den ρ j = some v ∧ Writes ρ j l (w.setCell ⟨k, o, none⟩ v) w'
def Does (ρ : Env) (nid : Nat) (eff : Eff) (j : Nat → Option Nat) (w : World) (j' : Nat → Option Nat) (w' : World) : Prop :=
  match eff.al with
  | some (cs, ty) => ∃ vs, denL ρ j cs = some vs ∧ w' = w.alloc (.cells vs.toArray ty) ∧ j' = fun b => if b = nid then some w.heap.size else j b
  | none => j' = j ∧ ∃ w1, Ext w w1 ∧ Writes ρ j eff.wr w1 w'

/-- The operation, in whatever state that agrees on what it looks at, does what eff says. -/
def OpOk (P : Program) (ρ : Env) (ev : Operand → Option V) (ld : Nat → Nat → Option C) (nid : Nat) (o : Oper) (eff : Eff) : Prop :=
  ∀ (j : Nat → Option Nat) (a : Act) (w : World), (∀ x ∈ o.op.operands.toList, ∀ v, ev x = some v → v.den ρ j = some (a.eval x)) → RdOk ρ j w ld eff.rd → WrOk j w eff.wr →
    ∀ (K : Act → World → Prop) (Q : Exit → Act → World → Prop), (∀ v j' w', eff.val.den ρ j' = some v → Does ρ nid eff j w j' w' → K (a.put o.dst v) w') → o.wp P a w K Q

theorem wp_val {P : Program} {o : Oper} {a : Act} {w w' : World} {v : Value} {K : Act → World → Prop} {Q : Exit → Act → World → Prop} (h : (execOp a.eval o).run P w = .ok (.value v) w') (hk : K (a.put o.dst v) w') : o.wp P a w K Q := by
  unfold Oper.wp; rw [h]; exact hk
theorem wp_skp {P : Program} {o : Oper} {a : Act} {w w' : World} {K : Act → World → Prop} {Q : Exit → Act → World → Prop} (h : (execOp a.eval o).run P w = .ok .skip w') (hk : K (a.put o.dst undef) w') : o.wp P a w K Q := by
  unfold Oper.wp; rw [h]; exact hk

section
variable {P : Program} {ρ : Env} {ev : Operand → Option V} {ld : Nat → Nat → Option C} {nid : Nat} {o : Oper}

/-- An operation that only reckons: it yields a value that its operands' values give. -/
theorem OpOk.pure {v : V} {rd : List (Nat × Nat)} (h : ∀ (j : Nat → Option Nat) (a : Act) (w : World), (∀ x ∈ o.op.operands.toList, ∀ v, ev x = some v → v.den ρ j = some (a.eval x)) → RdOk ρ j w ld rd →
    ∃ u, v.den ρ j = some u ∧ (execOp a.eval o).run P w = .ok (.value u) w) : OpOk P ρ ev ld nid o { val := v, rd := rd } := by
  intro j a w hev hrd _ K Q hK
  obtain ⟨u, hu, hr⟩ := h j a w hev hrd
  exact wp_val hr (hK u j w hu ⟨rfl, w, Ext.refl w, rfl⟩)

theorem run_loadCells {j : Nat → Option Nat} {b k : Nat} (hj : j b = some k) : ∀ (n o : Nat) (cs : List C), rowOf ld b o n = some cs → ∀ (w : World), RdOk ρ j w ld (rowRd b o n) → ∀ (a : Addr) (i : Nat) (acc : Array Value), (∀ m, a.add (i + m) = ⟨k, o + m, none⟩) →
    ∃ vs, denL ρ j cs = some vs ∧ (loadCellsFrom a i n acc).run P w = .ok (acc ++ vs.toArray) w
  | 0, o, cs, h, w, hrd, a, i, acc, ha => by
    cases h
    exact ⟨[], rfl, by simp [loadCellsFrom]⟩
  | n + 1, o, cs, h, w, hrd, a, i, acc, ha => by
    simp only [rowOf] at h
    cases hc : ld b o with
    | none => rw [hc] at h; cases h
    | some c =>
      cases hl : rowOf ld b (o + 1) n with
      | none => rw [hc, hl] at h; cases h
      | some l =>
        rw [hc, hl] at h; cases h
        obtain ⟨k', v, hk', hv, hcell⟩ := hrd (b, o) (by simp [rowRd]) c hc
        simp only at hk' hcell
        rw [hj] at hk'; cases hk'
        obtain ⟨vs, h1, h2⟩ := run_loadCells hj n (o + 1) l hl w (fun p hp => hrd p (by simp [rowRd]; exact .inr hp)) a (i + 1) (acc.push v) (fun m => by rw [Nat.add_assoc, Nat.add_comm 1 m, ← Nat.add_assoc, Nat.add_assoc, ha (m + 1)]; congr 1; omega)
        refine ⟨v :: vs, by simp [denL, hv, h1], ?_⟩
        have ha0 := ha 0
        simp only [Nat.add_zero] at ha0
        simp only [loadCellsFrom, ha0, Sem.run_bind, load, Sem.run, hcell, Result.andThen_ok, h2]
        simp

theorem part_ok {cx : Cx} (hT : ∀ t i, (t, i) ∈ cx.ty → TIok P t i) {ft : Nat} {cs : List C} {off : Nat} {v : V} (h : partV cx ft cs off = some v) {j : Nat → Option Nat} {vs : List Value} (hvs : denL ρ j cs = some vs) (w : World) :
    ∃ u, v.den ρ j = some u ∧ (part ft vs.toArray off).run P w = .ok u w := by
  unfold partV at h
  split at h
  · rename_i i hi
    have ht := hT _ _ (lookN_mem hi)
    split at h
    · rename_i hagg
      split at h
      · rename_i hlen
        cases h
        have h1 := denL_take (denL_drop hvs off) i.size
        refine ⟨.agg ((vs.drop off).take i.size).toArray, by simp only [V.den, h1, Option.map_some], ?_⟩
        have h2 : vs.toArray.extract off (off + i.size) = ((vs.drop off).take i.size).toArray := by
          simp [List.extract_eq_take_drop]
        simp only [part, Sem.run_bind, ht.agg, hagg, Result.andThen_ok, if_true, ht.size, h2, Sem.run_pure]
      · cases h
    · rename_i hagg
      rw [Option.map_eq_some_iff] at h
      obtain ⟨c, hc, rfl⟩ := h
      obtain ⟨u, hu, hd⟩ := denL_get hvs off c hc
      refine ⟨u, hd, ?_⟩
      have h3 : vs.toArray[off]? = some u := by simpa using hu
      simp only [part, Sem.run_bind, ht.agg, hagg, Result.andThen_ok, h3]
      simp
  · cases h
end
end Go.Proofs.Ytcngfmhhaleoaaa
