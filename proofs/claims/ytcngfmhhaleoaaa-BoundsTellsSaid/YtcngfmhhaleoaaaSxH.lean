/- States of a symbolic run, what they say of a frame and a world, and that an operation leads from one to the next. Nothing of the program is in here. -/
import Derived.Test.YtcngfmhhaleoaaaSxG
import Derived.Laws.OwnMore
set_option linter.unusedVariables false
set_option linter.unusedSimpArgs false
namespace Go.Proofs.Ytcngfmhhaleoaaa
open Go.RowKit

structure FS where
  tmp : Nat → V
  box : Nat → Option (List C × Nat)
theorem FS.ext' {F F' : FS} (h1 : ∀ t, F.tmp t = F'.tmp t) (h2 : ∀ b, F.box b = F'.box b) : F = F' := by
  cases F; cases F'
  simp only [FS.mk.injEq]
  exact ⟨funext h1, funext h2⟩

def FS.put (F : FS) (dst : Option Nat) (v : V) : FS := { F with tmp := fun t => if dst = some t then v else F.tmp t }
def FS.new (F : FS) (nid : Nat) (x : List C × Nat) : FS := { F with box := fun b => if b = nid then some x else F.box b }
def FS.wr (F : FS) (p : Nat × Nat × C) : FS := { F with box := fun b => if b = p.1 then (F.box b).map (fun x => (x.1.set p.2.1 p.2.2, x.2)) else F.box b }
def FS.wrs (F : FS) (l : List (Nat × Nat × C)) : FS := l.foldl FS.wr F
def FS.app (F : FS) (dst : Option Nat) (nid : Nat) (eff : Eff) : FS :=
  (match eff.al with | some x => F.new nid x | none => F.wrs eff.wr).put dst eff.val

def evF (F : FS) (n : Nat) : Operand → Option V
  | .tmp t => if t < n then some (F.tmp t) else none
  | .const v => ofValue v
  | .global _ => none
  | .func f => some (.one (.fn f))
def ldF (F : FS) (b o : Nat) : Option C := (F.box b).bind fun x => x.1[o]?

structure Rel (ρ : Env) (n : Nat) (W0 : World) (F : FS) (j : Nat → Option Nat) (a : Act) (w : World) : Prop where
  defers : a.defers = []
  size : a.tmps.size = n
  tmp : ∀ t, t < n → ∃ v, a.tmps[t]? = some v ∧ (F.tmp t).den ρ j = some v
  box : ∀ b cs ty, F.box b = some (cs, ty) → ∃ k vs, j b = some k ∧ W0.heap.size ≤ k ∧ denL ρ j cs = some vs ∧ w.heap[k]? = some (.cells vs.toArray ty (0, 0))
  nob : ∀ b, F.box b = none → j b = none
  inj : ∀ b b' k, j b = some k → j b' = some k → b = b'
  ext : Ext W0 w

section
variable {P : Program} {ρ : Env} {n : Nat} {W0 : World} {F : FS} {j : Nat → Option Nat} {a : Act} {w : World}

theorem Rel.lt (h : Rel ρ n W0 F j a w) {b k : Nat} (hb : j b = some k) : ∃ cs ty vs, F.box b = some (cs, ty) ∧ W0.heap.size ≤ k ∧ denL ρ j cs = some vs ∧ w.heap[k]? = some (.cells vs.toArray ty (0, 0)) ∧ k < w.heap.size := by
  cases hF : F.box b with
  | none => rw [h.nob b hF] at hb; cases hb
  | some x =>
    obtain ⟨cs, ty⟩ := x
    obtain ⟨k', vs, h1, h2, h3, h4⟩ := h.box b cs ty hF
    rw [hb] at h1; cases h1
    refine ⟨cs, ty, vs, rfl, h2, h3, h4, ?_⟩
    rcases Nat.lt_or_ge k w.heap.size with hlt | hge
    · exact hlt
    · rw [Array.getElem?_eq_none hge] at h4; cases h4

theorem cell_row {k o ty : Nat} {vs : List Value} (h : w.heap[k]? = some (.cells vs.toArray ty (0, 0))) : w.cell? ⟨k, o, none⟩ = vs[o]? := by
  simp [World.cell?, h]
theorem frozen_row {k o ty : Nat} {vs : List Value} (h : w.heap[k]? = some (.cells vs.toArray ty (0, 0))) : w.frozen? ⟨k, o, none⟩ = false := by
  simp [World.frozen?, h]

theorem Rel.eval (h : Rel ρ n W0 F j a w) {x : Operand} {v : V} (hx : evF F n x = some v) : v.den ρ j = some (a.eval x) := by
  cases x with
  | tmp t =>
    simp only [evF] at hx
    split at hx
    · rename_i ht
      cases hx
      obtain ⟨u, h1, h2⟩ := h.tmp t ht
      rw [h2]
      simp [Act.eval, Array.getD_eq_getD_getElem?, h1]
    · cases hx
  | const v0 => exact ofValue_ok hx ρ j
  | global g => cases hx
  | func f => cases hx; rfl

/-- A call: more blocks. -/
theorem Rel.more (h : Rel ρ n W0 F j a w) {w1 : World} (hx : Ext w w1) : Rel ρ n W0 F j a w1 where
  defers := h.defers
  size := h.size
  tmp := h.tmp
  box b cs ty hF := by
    obtain ⟨k, vs, h1, h2, h3, h4⟩ := h.box b cs ty hF
    obtain ⟨_, _, _, _, _, _, _, hlt⟩ := h.lt h1
    exact ⟨k, vs, h1, h2, h3, by rw [hx.block k hlt]; exact h4⟩
  nob := h.nob
  inj := h.inj
  ext := h.ext.trans hx

theorem Rel.put (h : Rel ρ n W0 F j a w) {dst : Option Nat} {v : V} {u : Value} (hv : v.den ρ j = some u) (hd : ∀ d, dst = some d → d < n) : Rel ρ n W0 (F.put dst v) j (a.put dst u) w where
  defers := by cases dst <;> simp [Act.put, h.defers]
  size := by cases dst <;> simp [Act.put, h.size]
  tmp t ht := by
    cases dst with
    | none => simpa [FS.put, Act.put] using h.tmp t ht
    | some d =>
      by_cases hdt : d = t
      · subst hdt
        exact ⟨u, by simp [Act.put, Array.getElem?_setIfInBounds, h.size, ht], by simp [FS.put, hv]⟩
      · obtain ⟨x, h1, h2⟩ := h.tmp t ht
        exact ⟨x, by simp [Act.put, Array.getElem?_setIfInBounds, hdt, h1], by simp [FS.put, hdt, h2]⟩
  box := h.box
  nob := h.nob
  inj := h.inj
  ext := h.ext

theorem Rel.new (h : Rel ρ n W0 F j a w) {nid ty : Nat} {cs : List C} {vs : List Value} (hd : denL ρ j cs = some vs) (hn : F.box nid = none) :
    Rel ρ n W0 (F.new nid (cs, ty)) (fun b => if b = nid then some w.heap.size else j b) a (w.alloc (.cells vs.toArray ty)) := by
  have hs : Sub j (fun b => if b = nid then some w.heap.size else j b) := fun b k hb => by
    have : b ≠ nid := fun e => by rw [e, h.nob nid hn] at hb; cases hb
    simp [this, hb]
  refine ⟨h.defers, h.size, fun t ht => ?_, fun b cs' ty' hF => ?_, fun b hF => ?_, fun b b' k h1 h2 => ?_, h.ext.alloc _⟩
  · obtain ⟨v, h1, h2⟩ := h.tmp t ht
    exact ⟨v, h1, V.den_sub hs h2⟩
  · by_cases hb : b = nid
    · simp only [FS.new, hb, if_true, Option.some.injEq, Prod.mk.injEq] at hF
      obtain ⟨rfl, rfl⟩ := hF
      exact ⟨w.heap.size, vs, by simp [hb], h.ext.size, denL_sub hs hd, by exact heap_alloc_new _ _⟩
    · simp only [FS.new, hb, if_false] at hF
      obtain ⟨k, us, h1, h2, h3, h4⟩ := h.box b cs' ty' hF
      obtain ⟨_, _, _, _, _, _, _, hlt⟩ := h.lt h1
      refine ⟨k, us, by simp [hb, h1], h2, denL_sub hs h3, ?_⟩
      simp only [World.alloc]
      rw [Array.getElem?_push_lt hlt, ← h4, Array.getElem?_eq_getElem hlt]
  · by_cases hb : b = nid
    · simp [FS.new, hb] at hF
    · simp only [FS.new, hb, if_false] at hF
      simp [hb, h.nob b hF]
  · by_cases hb : b = nid <;> by_cases hb' : b' = nid <;> simp only [hb, hb', if_true, if_false] at h1 h2
    · rw [hb, hb']
    · obtain ⟨_, _, _, _, _, _, _, hlt⟩ := h.lt h2
      cases h1; omega
    · obtain ⟨_, _, _, _, _, _, _, hlt⟩ := h.lt h1
      cases h2; omega
    · exact h.inj b b' k h1 h2

theorem Rel.wr1 (h : Rel ρ n W0 F j a w) {b o : Nat} {c : C} {k : Nat} {v : Value} (hk : j b = some k) (hv : c.den ρ j = some v) : Rel ρ n W0 (F.wr (b, o, c)) j a (w.setCell ⟨k, o, none⟩ v) := by
  obtain ⟨cs, ty, vs, hF, hge, hd, hh, hlt⟩ := h.lt hk
  refine ⟨h.defers, h.size, h.tmp, fun b' cs' ty' hF' => ?_, fun b' hF' => ?_, h.inj, h.ext.setCell hge v⟩
  · by_cases hb : b' = b
    · subst hb
      simp only [FS.wr, if_true, hF, Option.map_some, Option.some.injEq, Prod.mk.injEq] at hF'
      obtain ⟨rfl, rfl⟩ := hF'
      refine ⟨k, vs.set o v, hk, hge, denL_set hd o c v hv, ?_⟩
      have := heap_setCell_same w k o vs.toArray ty v hh
      simpa using this
    · simp only [FS.wr, hb, if_false] at hF'
      obtain ⟨k', us, h1, h2, h3, h4⟩ := h.box b' cs' ty' hF'
      refine ⟨k', us, h1, h2, h3, ?_⟩
      rw [heap_setCell_other w ⟨k, o, none⟩ k' v (fun e => hb (h.inj b' b k (by rw [h1, e]) hk))]
      exact h4
  · by_cases hb : b' = b
    · subst hb; simp [FS.wr, hF] at hF'
    · simp only [FS.wr, hb, if_false] at hF'
      exact h.nob b' hF'
theorem Rel.wrs : ∀ {l : List (Nat × Nat × C)} {F : FS} {w w' : World}, Rel ρ n W0 F j a w → Writes ρ j l w w' → Rel ρ n W0 (F.wrs l) j a w'
  | [], F, w, w', h, hw => by
    have e : w' = w := hw
    subst e
    exact h
  | (b, o, c) :: l, F, w, w', h, hw => by
    obtain ⟨k, v, hk, hv, hw'⟩ := hw
    exact Rel.wrs (F := F.wr (b, o, c)) (h.wr1 hk hv) hw'

/-- What an operation must find as the run has it. -/
structure Sees (n : Nat) (ev : Operand → Option V) (ld : Nat → Nat → Option C) (nid : Nat) (o : Oper) (eff : Eff) (F : FS) : Prop where
  ev : ∀ x ∈ o.op.operands.toList, ∀ v, ev x = some v → evF F n x = some v
  rd : ∀ p ∈ eff.rd, ∀ c, ld p.1 p.2 = some c → ldF F p.1 p.2 = some c
  wr : ∀ p ∈ eff.wr, ∃ c, ldF F p.1 p.2.1 = some c
  nw : eff.al ≠ none → F.box nid = none

theorem ldF_cell (h : Rel ρ n W0 F j a w) {b o : Nat} {c : C} (hc : ldF F b o = some c) : ∃ k v, j b = some k ∧ c.den ρ j = some v ∧ w.cell? ⟨k, o, none⟩ = some v ∧ w.frozen? ⟨k, o, none⟩ = false := by
  simp only [ldF, Option.bind_eq_some_iff] at hc
  obtain ⟨x, hx, hc⟩ := hc
  obtain ⟨cs, ty⟩ := x
  obtain ⟨k, vs, h1, h2, h3, h4⟩ := h.box b cs ty hx
  obtain ⟨v, hv, hd⟩ := denL_get h3 o c hc
  exact ⟨k, v, h1, hd, by rw [cell_row h4]; exact hv, frozen_row h4⟩

theorem op_step (h : Rel ρ n W0 F j a w) {ev : Operand → Option V} {ld : Nat → Nat → Option C} {nid : Nat} {o : Oper} {eff : Eff} (hok : OpOk P ρ ev ld nid o eff) (hs : Sees n ev ld nid o eff F) (hd : ∀ d, o.dst = some d → d < n)
    {K : Act → World → Prop} {Q : Exit → Act → World → Prop} (hK : ∀ j' a' w', Rel ρ n W0 (F.app o.dst nid eff) j' a' w' → K a' w') : o.wp P a w K Q := by
  refine hok j a w (fun x hx v hv => h.eval (hs.ev x hx v hv)) (fun p hp c hc => ?_) (fun p hp => ?_) K Q (fun v j' w' hv hdoes => ?_)
  · obtain ⟨k, v, h1, h2, h3, _⟩ := ldF_cell h (hs.rd p hp c hc)
    exact ⟨k, v, h1, h2, h3⟩
  · obtain ⟨c, hc⟩ := hs.wr p hp
    obtain ⟨k, v, h1, _, h3, h4⟩ := ldF_cell h hc
    exact ⟨k, v, h1, h3, h4⟩
  · unfold Does at hdoes
    refine hK j' _ w' ?_
    unfold FS.app
    split at hdoes
    · rename_i cs ty hal
      obtain ⟨vs, h1, rfl, rfl⟩ := hdoes
      rw [hal]
      exact (h.new h1 (hs.nw (by rw [hal]; simp))).put hv hd
    · rename_i hal
      obtain ⟨rfl, w1, h1, h2⟩ := hdoes
      rw [hal]
      exact ((h.more h1).wrs h2).put hv hd
end
end Go.Proofs.Ytcngfmhhaleoaaa
