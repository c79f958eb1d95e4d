/- The symbolic run of a function's code, and that it is sound. Nothing of the program is in here. -/
import Derived.Test.YtcngfmhhaleoaaaSxJ
set_option linter.unusedVariables false
set_option linter.unusedSimpArgs false
namespace Go.Proofs.Ytcngfmhhaleoaaa
open Go.RowKit

structure St where
  tmps : List V
  heap : List (List C × Nat)
  deriving Inhabited
def evS (tmps : List V) : Operand → Option V
  | .tmp t => tmps[t]?
  | .const v => ofValue v
  | .global _ => none
  | .func f => some (.one (.fn f))
def ldS (heap : List (List C × Nat)) (b o : Nat) : Option C := (heap[b]?).bind fun x => x.1[o]?
def St.fs (s : St) : FS := ⟨fun t => (s.tmps[t]?).getD (.one .undef), fun b => s.heap[b]?⟩

def wrsS : List (Nat × Nat × C) → List (List C × Nat) → Option (List (List C × Nat))
  | [], h => some h
  | (b, o, c) :: l, h => match h[b]? with
    | some (cs, ty) => if o < cs.length then wrsS l (h.set b (cs.set o c, ty)) else none
    | none => none
def St.app (s : St) (dst : Option Nat) (eff : Eff) : Option St :=
  match (match eff.al with | some x => (match eff.wr with | [] => some (s.heap ++ [x]) | _ => none) | none => wrsS eff.wr s.heap) with
  | none => none
  | some h => match dst with
    | none => some ⟨s.tmps, h⟩
    | some d => if d < s.tmps.length then some ⟨s.tmps.set d eff.val, h⟩ else none

theorem evS_evF (s : St) (x : Operand) : evF s.fs s.tmps.length x = evS s.tmps x := by
  cases x with
  | tmp t =>
    simp only [evF, evS, St.fs]
    split
    · rename_i h; simp [List.getElem?_eq_getElem h]
    · rename_i h; rw [List.getElem?_eq_none (Nat.le_of_not_lt h)]
  | _ => rfl
theorem ldS_ldF (s : St) (b o : Nat) : ldF s.fs b o = ldS s.heap b o := rfl

theorem wrsS_ok : ∀ (l : List (Nat × Nat × C)) (h h' : List (List C × Nat)) (tm : Nat → V), wrsS l h = some h' → (⟨tm, fun b => h'[b]?⟩ : FS) = FS.wrs ⟨tm, fun b => h[b]?⟩ l ∧ ∀ p ∈ l, ∃ c, ldF ⟨tm, fun b => h[b]?⟩ p.1 p.2.1 = some c
  | [], h, h', tm, e => by cases e; exact ⟨rfl, fun p hp => by cases hp⟩
  | (b, o, c) :: l, h, h', tm, e => by
    simp only [wrsS] at e
    split at e
    · rename_i cs ty hb
      split at e
      · rename_i ho
        obtain ⟨h1, h2⟩ := wrsS_ok l _ h' tm e
        have hblt : b < h.length := by
          rcases Nat.lt_or_ge b h.length with h3 | h3
          · exact h3
          · rw [List.getElem?_eq_none h3] at hb; cases hb
        have hw : (⟨tm, fun b' => (h.set b (cs.set o c, ty))[b']?⟩ : FS) = FS.wr ⟨tm, fun b => h[b]?⟩ (b, o, c) := by
          refine FS.ext' (fun _ => rfl) (fun b' => ?_)
          unfold FS.wr
          dsimp only
          rw [List.getElem?_set]
          by_cases hbb : b' = b
          · subst hbb
            simp only [if_true, hblt, hb, Option.map_some]
          · simp [hbb, show ¬ b = b' from fun e => hbb e.symm]
        refine ⟨by rw [h1, hw]; rfl, fun p hp => ?_⟩
        rcases List.mem_cons.1 hp with rfl | hp
        · refine ⟨cs[o], ?_⟩
          simp [ldF, hb, List.getElem?_eq_getElem ho]
        · obtain ⟨c', hc'⟩ := h2 p hp
          rw [hw, ldF_wr] at hc'
          split at hc'
          · rw [Option.map_eq_some_iff] at hc'
            obtain ⟨x, hx, _⟩ := hc'
            exact ⟨x, hx⟩
          · exact ⟨c', hc'⟩
      · cases e
    · cases e

theorem St.app_ok {s s' : St} {dst : Option Nat} {eff : Eff} (h : s.app dst eff = some s') : s'.fs = s.fs.app dst s.heap.length eff ∧ s'.tmps.length = s.tmps.length ∧ (∀ d, dst = some d → d < s.tmps.length) ∧ (∀ p ∈ eff.wr, ∃ c, ldF s.fs p.1 p.2.1 = some c) := by
  unfold St.app at h
  split at h
  · cases h
  · rename_i hp heq
    have key : (∀ dst, (⟨s.fs.tmp, fun b => hp[b]?⟩ : FS).put dst eff.val = s.fs.app dst s.heap.length eff) ∧ (∀ p ∈ eff.wr, ∃ c, ldF s.fs p.1 p.2.1 = some c) := by
      unfold FS.app
      cases hal : eff.al with
      | some x =>
        rw [hal] at heq
        dsimp only at heq
        split at heq
        · rename_i hwr
          cases heq
          refine ⟨fun dst => ?_, fun p hp => (by rw [hwr] at hp; cases hp)⟩
          have : (⟨s.fs.tmp, fun b => (s.heap ++ [x])[b]?⟩ : FS) = s.fs.new s.heap.length x := by
            refine FS.ext' (fun _ => rfl) (fun b => ?_)
            simp only [FS.new, St.fs]
            by_cases hb : b = s.heap.length
            · subst hb; simp
            · rcases Nat.lt_or_ge b s.heap.length with h1 | h1
              · rw [List.getElem?_append_left h1]; simp [hb]
              · rw [List.getElem?_eq_none (by simp; omega)]
                simp [hb, List.getElem?_eq_none h1]
          rw [this]
        · cases heq
      | none =>
        rw [hal] at heq
        obtain ⟨h1, h2⟩ := wrsS_ok eff.wr s.heap hp s.fs.tmp heq
        exact ⟨fun dst => by rw [h1]; rfl, h2⟩
    split at h
    · cases h
      refine ⟨?_, rfl, fun d hd => (by cases hd), key.2⟩
      rw [← key.1]
      refine FS.ext' (fun t => ?_) (fun _ => rfl)
      simp [FS.put, St.fs]
    · rename_i d
      split at h
      · rename_i hd
        cases h
        refine ⟨?_, by simp, fun d' hd' => (by cases hd'; exact hd), key.2⟩
        rw [← key.1]
        refine FS.ext' (fun t => ?_) (fun _ => rfl)
        simp only [FS.put, St.fs, List.getElem?_set]
        by_cases ht : d = t
        · subst ht; simp [hd]
        · simp [ht]
      · cases h

/-! ### The operations of a region -/
def opsK (cx : Cx) (ops : Array Oper) : List Oper → St → Kw → (List Rec → St → Kw → Tr) → Tr
  | [], s, kw, k => k [] s kw
  | o :: l, s, kw, k =>
    match o.guard with
    | none => opK cx (evS s.tmps) (ldS s.heap) s.heap.length o.op kw fun eff kw =>
      match s.app o.dst eff with
      | some s' => opsK cx ops l s' kw fun rs s'' kw => k (⟨o, true, s.heap.length, eff⟩ :: rs) s'' kw
      | none => .stuck 60
    | some (g, b) =>
      match ((ops[g]?).bind (·.dst)).bind (s.tmps[·]?) with
      | some (.one (.bool e)) => decK e (fun x kw =>
        if x == b then opK cx (evS s.tmps) (ldS s.heap) s.heap.length o.op kw fun eff kw =>
          match s.app o.dst eff with
          | some s' => opsK cx ops l s' kw fun rs s'' kw => k (⟨o, true, s.heap.length, eff⟩ :: rs) s'' kw
          | none => .stuck 60
        else match s.app o.dst { val := .one .undef } with
          | some s' => opsK cx ops l s' kw fun rs s'' kw => k (⟨o, false, s.heap.length, { val := .one .undef }⟩ :: rs) s'' kw
          | none => .stuck 60) kw
      | some (.one .undef) => match s.app o.dst { val := .one .undef } with
          | some s' => opsK cx ops l s' kw fun rs s'' kw => k (⟨o, false, s.heap.length, { val := .one .undef }⟩ :: rs) s'' kw
          | none => .stuck 60
      | _ => .stuck 61

section
variable {P : Program} {sp : Spec} {ρ : Env} {G : V → Prop} {cx : Cx}

theorem opsK_ok (hT : ∀ t i, (t, i) ∈ cx.ty → TIok P t i) (hS : ∀ s ∈ cx.sm, SmOk P sp s) (hkeys : ∀ s ∈ cx.sm, ∀ s' ∈ cx.sm, s.key = s'.key → s = s') {ops : Array Oper} :
    ∀ (l : List Oper) (s : St) (kw : Kw) (k : List Rec → St → Kw → Tr), (opsK cx ops l s kw k).holds sp ρ G → Good sp cx.sm ρ kw →
      ∃ rs s' kw', (k rs s' kw').holds sp ρ G ∧ Good sp cx.sm ρ kw' ∧ rs.map (·.o) = l ∧ s'.fs = full rs s.fs ∧ s'.tmps.length = s.tmps.length ∧ ∀ (m : Nat) r, rs[m]? = some r → RecOk P ρ s.tmps.length ops r (full (rs.take m) s.fs)
  | [], s, kw, k, h, hg => ⟨[], s, kw, h, hg, rfl, rfl, rfl, fun m r hm => by simp at hm⟩
  | o :: l, s, kw, k, h, hg => by
    -- what is common to the ways
    have next : ∀ (want : Bool) (eff : Eff) (kw : Kw), ((match s.app o.dst eff with | some s' => opsK cx ops l s' kw fun rs s'' kw => k (⟨o, want, s.heap.length, eff⟩ :: rs) s'' kw | none => .stuck 60 : Tr)).holds sp ρ G → Good sp cx.sm ρ kw →
        (∀ s', s.app o.dst eff = some s' → RecOk P ρ s.tmps.length ops ⟨o, want, s.heap.length, eff⟩ s.fs) →
        ∃ rs s' kw', (k rs s' kw').holds sp ρ G ∧ Good sp cx.sm ρ kw' ∧ rs.map (·.o) = o :: l ∧ s'.fs = full rs s.fs ∧ s'.tmps.length = s.tmps.length ∧ ∀ (m : Nat) r, rs[m]? = some r → RecOk P ρ s.tmps.length ops r (full (rs.take m) s.fs) := by
      intro want eff kw h hg hrec
      split at h
      · rename_i s1 hs1
        obtain ⟨e1, e2, e3, e4⟩ := St.app_ok hs1
        obtain ⟨rs, s', kw', h1, h2, h3, h4, h5, h6⟩ := opsK_ok hT hS hkeys l s1 kw _ h hg
        refine ⟨⟨o, want, s.heap.length, eff⟩ :: rs, s', kw', h1, h2, by simp [h3], ?_, by rw [h5, e2], fun m r hm => ?_⟩
        · rw [h4, e1]; rfl
        · cases m with
          | zero =>
            simp only [List.getElem?_cons_zero, Option.some.injEq] at hm
            subst hm
            exact hrec s1 hs1
          | succ m =>
            have := h6 m r (by simpa using hm)
            rw [e1, e2] at this
            exact this
      · exact h.elim
    have ran : ∀ kw, (opK cx (evS s.tmps) (ldS s.heap) s.heap.length o.op kw fun eff kw =>
          match s.app o.dst eff with
          | some s' => opsK cx ops l s' kw fun rs s'' kw => k (⟨o, true, s.heap.length, eff⟩ :: rs) s'' kw
          | none => .stuck 60).holds sp ρ G → Good sp cx.sm ρ kw →
        (match o.guard with
          | none => True
          | some (g, b) => ∃ t, (ops[g]?).bind (·.dst) = some t ∧ t < s.tmps.length ∧ ∃ e : E, s.fs.tmp t = .one (.bool e) ∧ true = (e.B ρ == b)) →
        ∃ rs s' kw', (k rs s' kw').holds sp ρ G ∧ Good sp cx.sm ρ kw' ∧ rs.map (·.o) = o :: l ∧ s'.fs = full rs s.fs ∧ s'.tmps.length = s.tmps.length ∧ ∀ (m : Nat) r, rs[m]? = some r → RecOk P ρ s.tmps.length ops r (full (rs.take m) s.fs) := by
      intro kw h hg hgd
      obtain ⟨eff, kw1, h1, g1, hok⟩ := opK_ok (P := P) (o := o) hT hS hkeys h hg
      refine next true eff kw1 h1 g1 (fun s1 hs1 => ?_)
      obtain ⟨e1, e2, e3, e4⟩ := St.app_ok hs1
      refine ⟨fun _ => ⟨_, _, hok, ⟨fun x hx v hv => by rw [evS_evF]; exact hv, fun p hp c hc => hc, e4, fun _ => by simp [St.fs]⟩⟩, fun h => (by cases h), ?_, e3⟩
      cases hgg : o.guard with
      | none => simp [hgg]
      | some p =>
        obtain ⟨g, b⟩ := p
        simp only [hgg]
        rw [hgg] at hgd
        obtain ⟨t, h2, h3, e, h4, h5⟩ := hgd
        exact ⟨t, h2, h3, .inl ⟨e, h4, h5⟩⟩
    have skipped : ∀ (kw : Kw) (g : Nat) (b : Bool), o.guard = some (g, b) → (match s.app o.dst { val := .one .undef } with
          | some s' => opsK cx ops l s' kw fun rs s'' kw => k (⟨o, false, s.heap.length, { val := .one .undef }⟩ :: rs) s'' kw
          | none => .stuck 60 : Tr).holds sp ρ G → Good sp cx.sm ρ kw →
        (∃ t, (ops[g]?).bind (·.dst) = some t ∧ t < s.tmps.length ∧ ((∃ e : E, s.fs.tmp t = .one (.bool e) ∧ false = (e.B ρ == b)) ∨ (s.fs.tmp t = .one .undef ∧ false = false))) →
        ∃ rs s' kw', (k rs s' kw').holds sp ρ G ∧ Good sp cx.sm ρ kw' ∧ rs.map (·.o) = o :: l ∧ s'.fs = full rs s.fs ∧ s'.tmps.length = s.tmps.length ∧ ∀ (m : Nat) r, rs[m]? = some r → RecOk P ρ s.tmps.length ops r (full (rs.take m) s.fs) := by
      intro kw g b hgg h hg hgd
      refine next false _ kw h hg (fun s1 hs1 => ?_)
      obtain ⟨e1, e2, e3, e4⟩ := St.app_ok hs1
      refine ⟨fun h => (by cases h), fun _ => rfl, ?_, e3⟩
      simp only [hgg]
      obtain ⟨t, h1, h2, h3⟩ := hgd
      exact ⟨t, h1, h2, h3.imp id (fun h => ⟨h.1, trivial⟩)⟩
    have tmpAt : ∀ (g t : Nat) v, ((ops[g]?).bind (·.dst)).bind (s.tmps[·]?) = some v → ∃ t, (ops[g]?).bind (·.dst) = some t ∧ t < s.tmps.length ∧ s.fs.tmp t = v := by
      intro g _ v h
      rw [Option.bind_eq_some_iff] at h
      obtain ⟨t, h1, h2⟩ := h
      refine ⟨t, h1, ?_, by simp [St.fs, h2]⟩
      rcases Nat.lt_or_ge t s.tmps.length with h3 | h3
      · exact h3
      · rw [List.getElem?_eq_none h3] at h2; cases h2
    unfold opsK at h
    split at h
    · rename_i hgg
      exact ran kw h hg (by simp [hgg])
    · rename_i g b hgg
      split at h
      · rename_i e he
        obtain ⟨t, h1, h2, h3⟩ := tmpAt g 0 _ he
        obtain ⟨kw1, h4, g4⟩ := decK_ok _ _ _ h hg
        split at h4
        · rename_i hb
          exact ran kw1 h4 g4 (by simp only [hgg]; exact ⟨t, h1, h2, e, h3, hb.symm⟩)
        · rename_i hb
          exact skipped kw1 g b hgg h4 g4 ⟨t, h1, h2, .inl ⟨e, h3, by simpa using hb⟩⟩
      · rename_i he
        obtain ⟨t, h1, h2, h3⟩ := tmpAt g 0 _ he
        exact skipped kw g b hgg h hg ⟨t, h1, h2, .inr ⟨h3, rfl⟩⟩
      · exact h.elim
end
end Go.Proofs.Ytcngfmhhaleoaaa
