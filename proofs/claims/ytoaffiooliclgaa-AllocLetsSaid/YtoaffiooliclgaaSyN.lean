/- Results of a symbolic run, and the whole function. Nothing of the program is in here. -/
import Derived.Test.YtoaffiooliclgaaSyM4
set_option linter.unusedVariables false
set_option linter.unusedSimpArgs false
namespace Go.Proofs.Ytoaffiooliclgaa
open Go.RowKit

def resOne (cx : Cx) (s : St) : ResultVar → Option (Bool × List C)
  | .tmp t => match evS s.n s.tmps (.tmp t) with
    | some (.one c) => some (false, [c])
    | some (.agg cs) => some (true, cs)
    | _ => none
  | .cell t ty => match evS s.n s.tmps (.tmp t), lookN ty cx.ty with
    | some (.one (.ptr b o)), some i => if i.agg then (rowS s.heap b o i.size).map (true, ·) else (ldS s.heap b o).map (false, [·])
    | _, _ => none
def resL (cx : Cx) (s : St) : List ResultVar → Option (List (Bool × List C))
  | [] => some []
  | r :: l => match resOne cx s r, resL cx s l with
    | some x, some xs => some (x :: xs)
    | _, _ => none
/-- Results as data: numbers in range, rows of one's own. -/
def encR1 (vk : List VK) (heap : List Ob) : CK → C → E → Option E
  | .int k, .int k' e, t => if kdSame k k' && e.rng vk k then some (.cons e t) else none
  | .bool, .bool e, t => some (.consb e t)
  | .fn g, .fn g', t => if Nat.beq g g' then some (.cons (.lit 0) t) else none
  | .nilf, .nilf, t => some (.cons (.lit 0) t)
  | .sl ks ty, .sl id, t => match rwS heap id with
    | some r => if r.own && (r.kd.isSl && (ceSame r.ks ks && Nat.beq r.ty ty)) then some (.consl r.l t) else none
    | none => none
  | .sl ks _, .nsl, t => (match ks with | [] => none | _ :: _ => some (.consl .lnil t))
  | _, _, _ => none
def encRL1 (vk : List VK) (heap : List Ob) : List CK → List C → E → Option E
  | [], [], t => some t
  | k :: ks, c :: cs, t => (encRL1 vk heap ks cs t).bind (encR1 vk heap k c)
  | _, _, _ => none
/-- As `encR1`, for numbers known to be in range. -/
def encR0 (heap : List Ob) : CK → C → E → Option E
  | .int k, .int k' e, t => if kdSame k k' then some (.cons e t) else none
  | .bool, .bool e, t => some (.consb e t)
  | .fn g, .fn g', t => if Nat.beq g g' then some (.cons (.lit 0) t) else none
  | .nilf, .nilf, t => some (.cons (.lit 0) t)
  | .sl ks ty, .sl id, t => match rwS heap id with
    | some r => if r.own && (r.kd.isSl && (ceSame r.ks ks && Nat.beq r.ty ty)) then some (.consl r.l t) else none
    | none => none
  | .sl ks _, .nsl, t => (match ks with | [] => none | _ :: _ => some (.consl .lnil t))
  | _, _, _ => none
theorem encR0_eq {vk : List VK} {heap : List Ob} {k : CK} {c : C} {t e : E} (hc : c.rng vk = true) (h : encR0 heap k c t = some e) : encR1 vk heap k c t = some e := by
  unfold encR0 at h
  split at h
  · rename_i k1 k2 x
    split at h
    · rename_i h1
      obtain rfl := kdSame_eq h1
      have h2 : x.rng vk k1 = true := hc
      simp [encR1, h1, h2]; exact Option.some.inj h
    · cases h
  all_goals first | exact h | cases h
def encRL0 (heap : List Ob) : List CK → List C → E → Option E
  | [], [], t => some t
  | k :: ks, c :: cs, t => (encRL0 heap ks cs t).bind (encR0 heap k c)
  | _, _, _ => none
theorem encRL0_eq {vk : List VK} {heap : List Ob} : ∀ {ks : List CK} {cs : List C} {t e : E}, cs.all (C.rng vk) = true → encRL0 heap ks cs t = some e → encRL1 vk heap ks cs t = some e
  | [], [], _, _, _, h => h
  | k :: ks, c :: cs, t, e, hr, h => by
    simp only [List.all_cons, Bool.and_eq_true] at hr
    simp only [encRL0, Option.bind_eq_some_iff] at h
    obtain ⟨e1, h1, h2⟩ := h
    simp only [encRL1, Option.bind_eq_some_iff]
    exact ⟨e1, encRL0_eq hr.2 h1, encR0_eq hr.1 h2⟩
def encRL (vk : List VK) (heap : List Ob) (ks : List CK) (cs : List C) (t : E) : Option E := bif rngs vk cs vk 0 then encRL0 heap ks cs t else none
theorem encRL_some {vk : List VK} {heap : List Ob} {ks : List CK} {cs : List C} {t e : E} (h : encRL vk heap ks cs t = some e) : encRL1 vk heap ks cs t = some e := by
  unfold encRL at h
  cases hr : rngs vk cs vk 0 with
  | false => rw [hr] at h; cases h
  | true => rw [hr] at h; exact encRL0_eq (rngs_ok cs vk 0 rfl hr) h
def encRs (vk : List VK) (heap : List Ob) : List Sh → List (Bool × List C) → Option E
  | [], [] => some .nil
  | .one k :: ss, (false, [c]) :: l => (encRs vk heap ss l).bind (encRL vk heap [k] [c])
  | .agg ks :: ss, (true, cs) :: l => (encRs vk heap ss l).bind (encRL vk heap ks cs)
  | _, _ => none
def oidL : List CK → List C → List (Option Nat)
  | .sl _ _ :: ks, .sl id :: cs => some id :: oidL ks cs
  | .sl _ _ :: ks, _ :: cs => none :: oidL ks cs
  | _ :: ks, _ :: cs => oidL ks cs
  | _, _ => []
def oids : List Sh → List (Bool × List C) → List (Option Nat)
  | s :: ss, (_, cs) :: l => oidL s.cks cs ++ oids ss l
  | _, _ => []
def nodupO : List (Option Nat) → Bool
  | [] => true
  | none :: l => nodupO l
  | some a :: l => (l.all fun x => match x with | some b => !Nat.beq a b | none => true) && nodupO l
def svOf (j : J) : Option Nat → SV
  | some id => (j.s id).getD nilSV
  | none => nilSV

/-- What a call in place comes to. -/
def valOf : List (Bool × List C) → V
  | [(true, cs)] => .agg cs
  | [(false, [c])] => .one c
  | xs => .tup xs
/-- A call in place: the function's own code, its temporaries ahead of those of the ones that wait. -/
def callD (fuel : Nat) : Nat → Cx → ClK
  | 0, _, _, _, _, _, _ => .stuck 120
  | d + 1, cx, g, args, s, kw, k => match lookN g cx.fns with
    | none => .stuck (200000 + g)
    | some (fn, hints, cuts) => match fn.body with
      | some c => if fn.name == "runtime.NumGoroutine" then .stuck 121 else
        codeK (callD fuel d { cx with hints := hints, cuts := cuts }) { cx with hints := hints, cuts := cuts } fuel c ⟨s.tmps.push args (args.length + (fn.ntmps - args.length)), s.heap⟩ kw fun sg s' kw' => match sg with
          | .exit _ => .stuck 80
          | _ => match resL cx s' fn.results.toList with
            | some xs => if Nat.beq s'.tmps.old.length (s.tmps.old.length + 1) && Nat.beq s'.tmps.pop.n s.n then k (valOf xs) ⟨s'.tmps.pop, s'.heap⟩ kw' else .stuck 129
            | none => .stuck 81
      | none => .stuck 122

def funK (cx : Cx) (fuel : Nat) (fn : Func) (args : List V) (heap : List Ob) (kw : Kw) : Tr :=
  match fn.body with
  | some c => codeK (callD fuel 12 cx) cx fuel c ⟨TM.push args (args.length + (fn.ntmps - args.length)) ⟨.leaf (.one .undef), 0, []⟩, heap⟩ kw fun sg s kw => match sg with
    | .exit _ => .stuck 80
    | _ => match resL cx s fn.results.toList with
      | some xs => match encRs kw.vk s.heap cx.res xs with
        | some e => if nodupO (oids cx.res xs) then .leaf e else .stuck 83
        | none => .stuck 84
      | none => .stuck 81
  | none => .stuck 82

section
variable {P : Program} {sp : Spec} {ρ : Env} {G : Env → E → Prop} {I : Nat → List Dt → Prop} {cx : Cx} {n : Nat} {X : List Value} {W0 : World}

theorem nodupO_at : ∀ {l : List (Option Nat)}, nodupO l = true → ∀ (i i' : Nat) b, l[i]? = some (some b) → l[i']? = some (some b) → i = i'
  | [], _, i, i', b, h, _ => by simp at h
  | x :: l, h, i, i', b, hi, hi' => by
    have key : nodupO l = true ∧ ∀ b, x = some b → ∀ i : Nat, l[i]? ≠ some (some b) := by
      cases x with
      | none => exact ⟨h, fun b hb => by cases hb⟩
      | some a =>
        simp only [nodupO, Bool.and_eq_true] at h
        refine ⟨h.2, fun b hb i hi => ?_⟩
        cases hb
        have := List.all_eq_true.1 h.1 _ (List.mem_of_getElem? hi)
        simp at this
    cases i with
    | zero =>
      simp at hi
      cases i' with
      | zero => rfl
      | succ i' => exact absurd (by simpa using hi') (key.2 b hi i')
    | succ i =>
      cases i' with
      | zero =>
        simp at hi'
        exact absurd (by simpa using hi) (key.2 b hi' i)
      | succ i' => rw [nodupO_at key.1 i i' b (by simpa using hi) (by simpa using hi')]

theorem rowOf_ok {j : J} {a : Act} {w : World} {s : St} (h : Rel ρ n X W0 cx.fbs s.fs j a w) {b : Nat} : ∀ (m o : Nat), RdOk ρ j w (ldS s.heap) (rowRd b o m) := by
  intro m o p hp c hc
  rw [← ldS_ldF] at hc
  obtain ⟨k', v, h1, h2, h3, _⟩ := ldF_cell h (b := p.1) (o := p.2) (c := c) hc
  exact ⟨k', v, h1, h2, h3⟩

theorem den0L_length {j : J} : ∀ {cs : List (Bool × List C)} {vs : List Value}, den0L ρ j cs = some vs → vs.length = cs.length
  | [], vs, h => by cases h; rfl
  | c :: cs, vs, h => by
    simp only [den0L] at h
    cases hc : den0 ρ j c with
    | none => rw [hc] at h; cases h
    | some v =>
      cases hl : den0L ρ j cs with
      | none => rw [hc, hl] at h; cases h
      | some l => rw [hc, hl] at h; cases h; simp [den0L_length hl]

def resSem (tmps : Array Value) : ResultVar → Sem Value
  | .tmp t => pure (tmps.getD t undef)
  | .cell a t => do loadVar t (← asAddr (tmps.getD a undef))
theorem results_eq (fn : Func) (tmps : Array Value) : results fn tmps = (do let vs ← fn.results.mapM (resSem tmps); pure (if h : vs.size = 1 then vs[0] else .tuple vs)) := by
  unfold results
  congr 2

theorem resOne_ok (hT : ∀ t i, (t, i) ∈ cx.ty → TIok P t i) {j : J} {a : Act} {w : World} {s : St} (h : At cx ρ n X W0 s j a w) {r : ResultVar} {x : Bool × List C} (hx : resOne cx s r = some x) :
    ∃ v, den0 ρ j x = some v ∧ (resSem a.tmps r).run P w = .ok v w := by
  have tmpv : ∀ t u, evS s.n s.tmps (.tmp t) = some u → u.den ρ j = some (a.tmps.getD t undef) := fun t u hu => h.ev (x := .tmp t) hu
  cases r with
  | tmp t =>
    simp only [resOne] at hx
    split at hx
    · rename_i c hc
      cases hx
      exact ⟨_, tmpv t _ hc, by simp [resSem]⟩
    · rename_i cs hc
      cases hx
      exact ⟨_, tmpv t _ hc, by simp [resSem]⟩
    · cases hx
  | cell t ty =>
    simp only [resOne] at hx
    split at hx
    · rename_i b o i hb hi
      obtain ⟨kk, hk, hp⟩ := ptr_of (tmpv t _ hb)
      have ht := hT _ _ (lookN_mem hi)
      split at hx
      · rename_i hagg
        rw [Option.map_eq_some_iff] at hx
        obtain ⟨cs, hcs, rfl⟩ := hx
        obtain ⟨vs, h1, h2⟩ := run_loadCells (P := P) hk i.size o cs (rowS_ok _ _ _ _ hcs) w (rowOf_ok h.rel i.size o) ⟨kk, o, none⟩ 0 #[] (fun m => by rw [add_none]; simp)
        refine ⟨.agg vs.toArray, by simp [den0, h1], ?_⟩
        simp [resSem, hp, asAddr, Sem.run_bind, loadVar, ht.agg, hagg, ht.size, loadCells, h2]
      · rename_i hagg
        rw [Option.map_eq_some_iff] at hx
        obtain ⟨c, hc, rfl⟩ := hx
        rw [← ldS_ldF] at hc
        obtain ⟨k', v, h1, h2, h3, _⟩ := ldF_cell h.rel (b := b) (o := o) (c := c) hc
        rw [hk] at h1; cases h1
        have hagg' : i.agg = false := by simpa using hagg
        refine ⟨v, h2, ?_⟩
        simp [resSem, hp, asAddr, Sem.run_bind, loadVar, ht.agg, hagg', load, Sem.run, h3]
    · cases hx

theorem resL_ok (hT : ∀ t i, (t, i) ∈ cx.ty → TIok P t i) {j : J} {a : Act} {w : World} {s : St} (h : At cx ρ n X W0 s j a w) : ∀ (l : List ResultVar) (xs : List (Bool × List C)), resL cx s l = some xs →
    ∃ vs, den0L ρ j xs = some vs ∧ vs.length = l.length ∧ (l.mapM (resSem a.tmps)).run P w = .ok vs w
  | [], xs, hx => by cases hx; exact ⟨[], rfl, rfl, by simp⟩
  | r :: l, xs, hx => by
    simp only [resL] at hx
    split at hx
    · rename_i x ys h1 h2
      cases hx
      obtain ⟨v, h3, h4⟩ := resOne_ok hT h h1
      obtain ⟨vs, h5, h6, h7⟩ := resL_ok hT h l ys h2
      refine ⟨v :: vs, by simp [den0L, h3, h5], by simp [h6], ?_⟩
      rw [List.mapM_cons]
      simp only [Sem.run_bind]
      rw [h4]
      simp only [Result.andThen_ok, h7]
      simp
    · cases hx
theorem results_ok (hT : ∀ t i, (t, i) ∈ cx.ty → TIok P t i) {j : J} {a : Act} {w : World} {s : St} (h : At cx ρ n X W0 s j a w) {fn : Func} {xs : List (Bool × List C)} (hx : resL cx s fn.results.toList = some xs) :
    ∃ vs, den0L ρ j xs = some vs ∧ (results fn a.tmps).run P w = .ok (if h : vs.toArray.size = 1 then vs.toArray[0] else .tuple vs.toArray) w := by
  obtain ⟨vs, h1, h2, h3⟩ := resL_ok hT h _ xs hx
  refine ⟨vs, h1, ?_⟩
  rw [results_eq, Sem.run_bind, Array.mapM_eq_mapM_toList]
  rw [show (List.toArray <$> List.mapM (resSem a.tmps) fn.results.toList : Sem (Array Value)) = (do let l ← List.mapM (resSem a.tmps) fn.results.toList; pure l.toArray) from rfl]
  simp [Sem.run_bind, h3]

/-! ### Results as data -/
theorem drop_cons {α : Type} {ds : List α} {n : Nat} {x : α} {r : List α} (h : ds.drop n = x :: r) : ds[n]? = some x ∧ ds.drop (n + 1) = r := by
  have h1 : ds[n]? = some x := by
    have := congrArg (·[0]?) h
    simpa using this
  refine ⟨h1, ?_⟩
  have := congrArg List.tail h
  simpa using this
/-- What a cell's, a list of cells', parts' results come to. -/
structure Res1 (ρ : Env) (j : J) (w0 w : World) (ks : List CK) (ids : List (Option Nat)) (vs : List Value) (e t : E) : Prop where
  len : ids.length = (ks.filter CK.isSl).length
  rng : resIn ks (e.D ρ)
  at' : ∀ ds n, ds.drop n = e.D ρ → ds.drop (n + ks.length) = t.D ρ ∧ ∀ (ρ' : Env) v0, eqs ρ' ds v0 n ks →
    (∀ id (j' : J), (∀ (i : Nat) u, ids[i]? = some u → j'.s (id + i) = some (svOf j u)) → denL ρ' j' (resCells v0 n id ks) = some vs) ∧
    (∀ (i : Nat) u r, ids[i]? = some u → (resRows v0 n ks)[i]? = some r → OwnRow w w0.heap.size r.ty r.ks (svOf j u) (r.l.R ρ'))

theorem cks_nil {ρ : Env} {j : J} {w0 w : World} {t : E} : Res1 ρ j w0 w [] [] [] t t :=
  ⟨rfl, trivial, fun ds n h => ⟨by simpa using h, fun ρ' v0 he => ⟨fun id j' h => rfl, fun i u r h => by simp at h⟩⟩⟩
theorem dI_of {ds : List Dt} {n : Nat} {x : Int} (h : ds[n]? = some (.z x)) : dI ds n = x := by simp [dI, h]
theorem dL_of {ds : List Dt} {n : Nat} {x : List (List Int)} (h : ds[n]? = some (.l x)) : dL ds n = x := by simp [dL, h]
theorem b2i_eq (b : Bool) : (b2i b == 1) = b := by cases b <;> rfl

theorem encR1_ok {vk : List VK} (hv : Vk ρ vk) {s : St} {j : J} {a : Act} {w : World} (h : Rel ρ n X W0 cx.fbs s.fs j a w) {k : CK} {c : C} {t e : E} (he : encR1 vk s.heap k c t = some e) {v : Value} (hd : c.den ρ j = some v) {ks : List CK} {ids : List (Option Nat)} {vs : List Value} {t0 : E} (hr : Res1 ρ j W0 w ks ids vs t t0) {cs : List C} (hids : ids = oidL ks cs) :
    Res1 ρ j W0 w (k :: ks) (oidL (k :: ks) (c :: cs)) (v :: vs) e t0 := by
  subst hids
  have plus : ∀ m : Nat, m + 1 + ks.length = m + (k :: ks).length := fun m => by simp; omega
  unfold encR1 at he
  split at he
  · rename_i k k' x
    split at he
    · rename_i hk
      cases he
      simp only [Bool.and_eq_true] at hk
      have := kdSame_eq hk.1
      subst this
      cases hd
      refine ⟨hr.len, ⟨E.rng_ok hv x hk.2, hr.rng⟩, fun ds n' h1 => ?_⟩
      obtain ⟨h2, h3⟩ := drop_cons h1
      obtain ⟨h4, h5⟩ := hr.at' ds (n' + 1) h3
      refine ⟨by rw [← plus]; exact h4, fun ρ' v0 heq => ?_⟩
      obtain ⟨h6, h7⟩ := h5 ρ' v0 heq.2
      refine ⟨fun id j' hj => ?_, h7⟩
      simp only [resCells, denL, C.den, E.I, h6 id j' hj, heq.1, dI_of h2]
    · cases he
  · rename_i x
    cases he
    cases hd
    refine ⟨hr.len, hr.rng, fun ds n' h1 => ?_⟩
    obtain ⟨h2, h3⟩ := drop_cons h1
    obtain ⟨h4, h5⟩ := hr.at' ds (n' + 1) h3
    refine ⟨by rw [← plus]; exact h4, fun ρ' v0 heq => ?_⟩
    obtain ⟨h6, h7⟩ := h5 ρ' v0 heq.2
    refine ⟨fun id j' hj => ?_, h7⟩
    have h8 : ρ'.b (v0 + n') = x.B ρ := by rw [heq.1]; simp only [dB, dI_of h2, b2i_eq]
    simp only [resCells, denL, C.den, E.B, h6 id j' hj, h8]
  · rename_i g g'
    split at he
    · rename_i hg
      cases he
      have := Nat.eq_of_beq_eq_true hg
      subst this
      cases hd
      refine ⟨hr.len, hr.rng, fun ds n' h1 => ?_⟩
      obtain ⟨h2, h3⟩ := drop_cons h1
      obtain ⟨h4, h5⟩ := hr.at' ds (n' + 1) h3
      refine ⟨by rw [← plus]; exact h4, fun ρ' v0 heq => ?_⟩
      obtain ⟨h6, h7⟩ := h5 ρ' v0 heq
      refine ⟨fun id j' hj => ?_, h7⟩
      simp only [resCells, denL, C.den, h6 id j' hj]
    · cases he
  · cases he
    cases hd
    refine ⟨hr.len, hr.rng, fun ds n' h1 => ?_⟩
    obtain ⟨h2, h3⟩ := drop_cons h1
    obtain ⟨h4, h5⟩ := hr.at' ds (n' + 1) h3
    refine ⟨by rw [← plus]; exact h4, fun ρ' v0 heq => ?_⟩
    obtain ⟨h6, h7⟩ := h5 ρ' v0 heq
    refine ⟨fun id j' hj => ?_, h7⟩
    simp only [resCells, denL, C.den, h6 id j' hj]
  · rename_i ks0 ty id0
    split at he
    · rename_i r hrw
      split at he
      · rename_i hq
        cases he
        simp only [Bool.and_eq_true] at hq
        obtain ⟨ho, hsl, hk, ht⟩ := hq
        rw [← rwS_rwF] at hrw
        obtain ⟨sv, h1, h2⟩ := h.row id0 r (rwF_row hrw)
        simp only [C.den, h1, Option.map_some, Option.some.injEq] at hd
        subst hd
        have e1 := ceSame_eq hk
        have e2 := Nat.eq_of_beq_eq_true ht
        subst e1 e2
        have hsv : svOf j (some id0) = sv := by simp [svOf, h1]
        refine ⟨by simp [oidL, List.filter, CK.isSl, hr.len], ⟨h2.rows, hr.rng⟩, fun ds n' h3 => ?_⟩
        obtain ⟨h4, h5⟩ := drop_cons h3
        obtain ⟨h6, h7⟩ := hr.at' ds (n' + 1) h5
        refine ⟨by rw [← plus]; exact h6, fun ρ' v0 heq => ?_⟩
        obtain ⟨h8, h9⟩ := h7 ρ' v0 heq.2
        refine ⟨fun id j' hj => ?_, fun i u q hi hq' => ?_⟩
        · have h10 := hj 0 (some id0) rfl
          rw [hsv, Nat.add_zero] at h10
          have h11 := h8 (id + 1) j' (fun i u hi => by
            have := hj (i + 1) u (by simpa [oidL] using hi)
            rwa [show id + (i + 1) = id + 1 + i by omega] at this)
          simp only [resCells, denL, C.den, h10, Option.map_some, h11]
        · cases i with
          | zero =>
            simp only [oidL, List.getElem?_cons_zero, Option.some.injEq] at hi
            simp only [resRows, List.getElem?_cons_zero, Option.some.injEq] at hq'
            subst hi hq'
            rw [hsv]
            simp only [E.R]
            rw [heq.1, dL_of h4]
            have h2 := h2.1 (RK.isSl_eq hsl)
            exact ⟨h2.n, h2.own ho, h2.rows, h2.pos⟩
          | succ i => exact h9 i u q (by simpa [oidL] using hi) (by simpa [resRows] using hq')
      · cases he
    · cases he
  · rename_i ks0 ty
    split at he
    · cases he
    · rename_i k0 ks1
      cases he
      cases hd
      have hrows : RowsIn (k0 :: ks1) [] := ⟨fun r hr => (by cases hr), by simp⟩
      refine ⟨by simp [oidL, List.filter, CK.isSl, hr.len], ⟨hrows, hr.rng⟩, fun ds n' h3 => ?_⟩
      obtain ⟨h4, h5⟩ := drop_cons h3
      obtain ⟨h6, h7⟩ := hr.at' ds (n' + 1) h5
      refine ⟨by rw [← plus]; exact h6, fun ρ' v0 heq => ?_⟩
      obtain ⟨h8, h9⟩ := h7 ρ' v0 heq.2
      refine ⟨fun id j' hj => ?_, fun i u q hi hq' => ?_⟩
      · have h10 := hj 0 none rfl
        rw [Nat.add_zero] at h10
        have h11 := h8 (id + 1) j' (fun i u hi => by
          have := hj (i + 1) u (by simpa [oidL] using hi)
          rwa [show id + (i + 1) = id + 1 + i by omega] at this)
        simp only [resCells, denL, C.den, h10, Option.map_some, h11]
        rfl
      · cases i with
        | zero =>
          simp only [oidL, List.getElem?_cons_zero, Option.some.injEq] at hi
          simp only [resRows, List.getElem?_cons_zero, Option.some.injEq] at hq'
          subst hi hq'
          simp only [E.R]
          rw [heq.1, dL_of h4]
          exact ⟨rfl, World.ownsRow_nil _ _ _ _, hrows, by simp⟩
        | succ i => exact h9 i u q (by simpa [oidL] using hi) (by simpa [resRows] using hq')
  · cases he
theorem encRL1_ok {vk : List VK} (hv : Vk ρ vk) {s : St} {j : J} {a : Act} {w : World} (h : Rel ρ n X W0 cx.fbs s.fs j a w) : ∀ {ks : List CK} {cs : List C} {t e : E}, encRL1 vk s.heap ks cs t = some e → ∀ {vs : List Value}, denL ρ j cs = some vs → Res1 ρ j W0 w ks (oidL ks cs) vs e t
  | [], [], t, e, he, vs, hd => by cases he; cases hd; exact cks_nil
  | k :: ks, c :: cs, t, e, he, vs, hd => by
    simp only [encRL1, Option.bind_eq_some_iff] at he
    obtain ⟨e', h1, h2⟩ := he
    simp only [denL] at hd
    cases hc : c.den ρ j with
    | none => rw [hc] at hd; cases hd
    | some v =>
      cases hl : denL ρ j cs with
      | none => rw [hc, hl] at hd; cases hd
      | some l =>
        rw [hc, hl] at hd; cases hd
        exact encR1_ok hv h h2 hc (encRL1_ok hv h h1 hl) rfl
theorem encRL_ok {vk : List VK} (hv : Vk ρ vk) {s : St} {j : J} {a : Act} {w : World} (h : Rel ρ n X W0 cx.fbs s.fs j a w) {ks : List CK} {cs : List C} {t e : E} (he : encRL vk s.heap ks cs t = some e) {vs : List Value} (hd : denL ρ j cs = some vs) : Res1 ρ j W0 w ks (oidL ks cs) vs e t := encRL1_ok hv h (encRL_some he) hd

structure Res2 (ρ : Env) (j : J) (w0 w : World) (ss : List Sh) (ids : List (Option Nat)) (vs : List Value) (e : E) : Prop where
  len : ids.length = ((ss.flatMap (·.cks)).filter CK.isSl).length
  rng : resIn (ss.flatMap (·.cks)) (e.D ρ)
  at' : ∀ ds n, ds.drop n = e.D ρ → ∀ (ρ' : Env) v0, eqs ρ' ds v0 n (ss.flatMap (·.cks)) →
    (∀ id (j' : J), (∀ (i : Nat) u, ids[i]? = some u → j'.s (id + i) = some (svOf j u)) → den0L ρ' j' (resParts v0 n id ss) = some vs) ∧
    (∀ (i : Nat) u r, ids[i]? = some u → (resRows v0 n (ss.flatMap (·.cks)))[i]? = some r → OwnRow w w0.heap.size r.ty r.ks (svOf j u) (r.l.R ρ'))
theorem eqs_app {ρ : Env} {ds : List Dt} {v0 : Nat} : ∀ (ks ks' : List CK) (n : Nat), eqs ρ ds v0 n (ks ++ ks') → eqs ρ ds v0 n ks ∧ eqs ρ ds v0 (n + ks.length) ks'
  | [], ks', n, h => ⟨trivial, h⟩
  | k :: ks, ks', n, h => by
    have plus : n + 1 + ks.length = n + (k :: ks).length := by simp; omega
    cases k
    case int => exact ⟨⟨h.1, (eqs_app ks ks' (n + 1) h.2).1⟩, by rw [← plus]; exact (eqs_app ks ks' (n + 1) h.2).2⟩
    case bool => exact ⟨⟨h.1, (eqs_app ks ks' (n + 1) h.2).1⟩, by rw [← plus]; exact (eqs_app ks ks' (n + 1) h.2).2⟩
    case sl => exact ⟨⟨h.1, (eqs_app ks ks' (n + 1) h.2).1⟩, by rw [← plus]; exact (eqs_app ks ks' (n + 1) h.2).2⟩
    all_goals exact ⟨(eqs_app ks ks' (n + 1) h).1, by rw [← plus]; exact (eqs_app ks ks' (n + 1) h).2⟩
theorem resIn_app : ∀ {ks ks' : List CK} {ds : List Dt}, resIn ks ds → resIn ks' (ds.drop ks.length) → resIn (ks ++ ks') ds
  | [], ks', ds, _, h => by simpa using h
  | k :: ks, ks', ds, h, h' => by
    cases ds with
    | nil => cases k <;> exact h.elim
    | cons d ds =>
      cases k
      case int => cases d <;> first | exact ⟨h.1, resIn_app h.2 h'⟩ | exact h.elim
      case sl => cases d <;> first | exact ⟨h.1, resIn_app h.2 h'⟩ | exact h.elim
      all_goals exact resIn_app (ks := ks) (ks' := ks') (ds := ds) h h'
theorem resRows_app {v0 : Nat} : ∀ (ks ks' : List CK) (n : Nat), resRows v0 n (ks ++ ks') = resRows v0 n ks ++ resRows v0 (n + ks.length) ks'
  | [], ks', n => rfl
  | k :: ks, ks', n => by
    have plus : n + 1 + ks.length = n + (k :: ks).length := by simp; omega
    cases k <;> simp only [List.cons_append, resRows, resRows_app ks ks' (n + 1), plus]
theorem resRows_len {v0 : Nat} : ∀ (ks : List CK) (n : Nat), (resRows v0 n ks).length = (ks.filter CK.isSl).length
  | [], n => rfl
  | k :: ks, n => by cases k <;> simp [resRows, List.filter, CK.isSl, resRows_len ks (n + 1)]
theorem Res2.cons {j : J} {w0 w : World} {k : Sh} {ss : List Sh} {ids ids' : List (Option Nat)} {us vs : List Value} {e t : E} {v : Value} (h1 : Res1 ρ j w0 w k.cks ids us e t) (h2 : Res2 ρ j w0 w ss ids' vs t)
    (hp : ∀ v0 n id, ∃ p, resParts v0 n id (k :: ss) = p :: resParts v0 (n + k.cks.length) (id + (k.cks.filter CK.isSl).length) ss ∧ ∀ (ρ' : Env) (j' : J), denL ρ' j' (resCells v0 n id k.cks) = some us → den0 ρ' j' p = some v) : Res2 ρ j w0 w (k :: ss) (ids ++ ids') (v :: vs) e := by
  refine ⟨by rw [List.flatMap_cons, List.filter_append, List.length_append, List.length_append, h1.len, h2.len], ?_, fun ds n' hd ρ' v0 he => ?_⟩
  · rw [List.flatMap_cons]
    have h3 := (h1.at' (e.D ρ) 0 rfl).1
    rw [Nat.zero_add] at h3
    exact resIn_app h1.rng (by rw [h3]; exact h2.rng)
  · rw [List.flatMap_cons] at he
    obtain ⟨e1, e2⟩ := eqs_app _ _ _ he
    obtain ⟨d1, d2⟩ := h1.at' ds n' hd
    obtain ⟨a1, a2⟩ := d2 ρ' v0 e1
    obtain ⟨b1, b2⟩ := h2.at' ds (n' + k.cks.length) d1 ρ' v0 e2
    refine ⟨fun id j' hj => ?_, fun i u r hi hr => ?_⟩
    · obtain ⟨p, p1, p2⟩ := hp v0 n' id
      rw [p1]
      have q1 := p2 ρ' j' (a1 id j' (fun i u hi => hj i u (by
        rw [List.getElem?_append_left (List.getElem?_eq_some_iff.1 hi).1]; exact hi)))
      have q2 := b1 (id + (k.cks.filter CK.isSl).length) j' (fun i u hi => by
        have := hj (ids.length + i) u (by rw [List.getElem?_append_right (by omega), Nat.add_sub_cancel_left]; exact hi)
        rw [h1.len] at this
        rwa [Nat.add_assoc])
      simp only [den0L, q1, q2]
    · rw [List.flatMap_cons, resRows_app] at hr
      rcases Nat.lt_or_ge i ids.length with hlt | hge
      · rw [List.getElem?_append_left hlt] at hi
        rw [List.getElem?_append_left (by rw [resRows_len, ← h1.len]; exact hlt)] at hr
        exact a2 i u r hi hr
      · rw [List.getElem?_append_right hge] at hi
        rw [List.getElem?_append_right (by rw [resRows_len, ← h1.len]; exact hge), resRows_len, ← h1.len] at hr
        exact b2 _ u r hi hr
theorem encRs_ok {vk : List VK} (hv : Vk ρ vk) {s : St} {j : J} {a : Act} {w : World} (h : Rel ρ n X W0 cx.fbs s.fs j a w) : ∀ {ss : List Sh} {xs : List (Bool × List C)} {e : E}, encRs vk s.heap ss xs = some e → ∀ {vs : List Value}, den0L ρ j xs = some vs → Res2 ρ j W0 w ss (oids ss xs) vs e
  | ss, xs, e, he, vs, hd => by
    unfold encRs at he
    split at he
    · cases he; cases hd
      exact ⟨rfl, trivial, fun ds n h ρ' v0 he => ⟨fun id j' h => rfl, fun i u r h => by simp [oids] at h⟩⟩
    · rename_i k ss c l
      rw [Option.bind_eq_some_iff] at he
      obtain ⟨e', h1, h2⟩ := he
      simp only [den0L] at hd
      cases hc : den0 ρ j (false, [c]) with
      | none => rw [hc] at hd; cases hd
      | some v =>
        cases hl : den0L ρ j l with
        | none => rw [hc, hl] at hd; cases hd
        | some us =>
          rw [hc, hl] at hd; cases hd
          have hc' : c.den ρ j = some v := hc
          refine Res2.cons (k := .one k) (encRL_ok hv h h2 (vs := [v]) (by simp [denL, hc'])) (encRs_ok hv h h1 hl) (fun v0 n id => ?_)
          refine ⟨(false, resCells v0 n id [k]), ?_, fun ρ' j' hh => ?_⟩
          · simp only [resParts, Sh.cks, List.length_singleton]
            congr 2
            cases k <;> simp [List.filter, CK.isSl]
          · simp only [Sh.cks] at hh
            have : ∃ c', resCells v0 n id [k] = [c'] := by cases k <;> exact ⟨_, rfl⟩
            obtain ⟨c', hc2⟩ := this
            rw [hc2] at hh ⊢
            simp only [denL] at hh
            simp only [den0]
            cases hx : c'.den ρ' j' with
            | none => rw [hx] at hh; cases hh
            | some y => rw [hx] at hh; simpa using hh
    · rename_i ks ss cs l
      rw [Option.bind_eq_some_iff] at he
      obtain ⟨e', h1, h2⟩ := he
      simp only [den0L] at hd
      cases hc : den0 ρ j (true, cs) with
      | none => rw [hc] at hd; cases hd
      | some v =>
        cases hl : den0L ρ j l with
        | none => rw [hc, hl] at hd; cases hd
        | some us =>
          rw [hc, hl] at hd; cases hd
          simp only [den0, Option.map_eq_some_iff] at hc
          obtain ⟨ws, hws, rfl⟩ := hc
          refine Res2.cons (k := .agg ks) (encRL_ok hv h h2 hws) (encRs_ok hv h h1 hl) (fun v0 n id => ?_)
          exact ⟨(true, resCells v0 n id ks), rfl, fun ρ' j' hh => by simp [den0, Sh.cks] at hh ⊢; exact hh⟩
    · cases he

theorem resVof_ok {ρ : Env} {j : J} {res : List Sh} {tup : Bool} {v0 nid : Nat} {vs : List Value} (ht : Nat.beq res.length 1 = !tup) (hl : vs.length = res.length) (h : den0L ρ j (resParts v0 0 nid res) = some vs) :
    (resVof res tup v0 nid).den ρ j = some (if h : vs.toArray.size = 1 then vs.toArray[0] else .tuple vs.toArray) := by
  cases tup with
  | true =>
    have hne : ¬ vs.length = 1 := fun e => by rw [hl] at e; simp [e] at ht
    simp [resVof, V.den, h, hne]
  | false =>
    have h1 : res.length = 1 := Nat.eq_of_beq_eq_true (by simpa using ht)
    match res, vs, h1, hl, h with
    | [r], [v], _, _, h =>
      unfold resVof
      rw [if_neg (by simp)]
      cases r with
      | one k =>
        have : ∃ c', resCells v0 0 nid [k] = [c'] := by cases k <;> exact ⟨_, rfl⟩
        obtain ⟨c', hc⟩ := this
        simp only [resParts, hc, den0L, den0] at h ⊢
        cases hx : c'.den ρ j with
        | none => rw [hx] at h; cases h
        | some y => rw [hx] at h; cases h; simpa [V.den] using hx
      | agg ks =>
        simp only [resParts, den0L, den0] at h ⊢
        cases hx : denL ρ j (resCells v0 0 nid ks) with
        | none => rw [hx] at h; cases h
        | some y => rw [hx] at h; cases h; simp [V.den, hx]
      | ptr ks =>
        simp only [resParts, den0L, den0, denL, C.den] at h ⊢
        cases h
        simp [V.den, denL, C.den]
theorem Res2.ret {j : J} {w0 w : World} {ss : List Sh} {tup : Bool} {ids : List (Option Nat)} {vs : List Value} {e : E} (h : Res2 ρ j w0 w ss ids vs e) (ht : Nat.beq ss.length 1 = !tup) (hl : vs.length = ss.length) (hx : Ext w0 w)
    (hd : ∀ (i i' : Nat) a b k, ids[i]? = some a → ids[i']? = some b → (svOf j a).v.ownBlock = some k → (svOf j b).v.ownBlock = some k → i = i') : RetOk ss tup w0 w (e.D ρ) (if h : vs.toArray.size = 1 then vs.toArray[0] else .tuple vs.toArray) := by
  have at0 := fun ρ' v0 he => h.at' (e.D ρ) 0 rfl ρ' v0 he
  refine ⟨hx, h.rng, ids.map (svOf j), by rw [List.length_map, h.len], fun ρ' v0 nid j' he hs => ?_, fun ρ' v0 he i u r hu hr => ?_, fun i i' u u' k hu hu' hk hk' => ?_⟩
  · exact resVof_ok ht hl ((at0 ρ' v0 he).1 nid j' (fun i u hi => hs i _ (by rw [List.getElem?_map, hi]; rfl)))
  · rw [List.getElem?_map, Option.map_eq_some_iff] at hu
    obtain ⟨a, ha, rfl⟩ := hu
    exact (at0 ρ' v0 he).2 i a r ha hr
  · rw [List.getElem?_map, Option.map_eq_some_iff] at hu hu'
    obtain ⟨a, ha, rfl⟩ := hu
    obtain ⟨b, hb, rfl⟩ := hu'
    exact hd i i' a b k ha hb hk hk'

/-- Where a function begins: rows and boxes that are the caller's. -/
structure Start (cx : Cx) (ρ : Env) (heap : List Ob) (j : J) (w : World) : Prop where
  row : ∀ (b : Nat) ob, heap[b]? = some ob → ∃ r s, ob = .row r ∧ r.own = false ∧ j.s b = some s ∧ RowOk ρ w.heap.size w s r
  nos : ∀ b, heap.length ≤ b → j.s b = none
  nob : ∀ b, j.b b = none
  fb : ∀ b cs, cx.fbs b = some cs → ∃ k vs, j.f b = some k ∧ k < w.heap.size ∧ denL ρ j cs = some vs ∧ ∀ (o : Nat) v, vs[o]? = some v → w.cell? ⟨k, o, none⟩ = some v
theorem oidL1_own {vk : List VK} {heap : List Ob} : ∀ {ks : List CK} {cs : List C} {t e : E}, encRL1 vk heap ks cs t = some e → ∀ (i id : Nat), (oidL ks cs)[i]? = some (some id) → ∃ r, rwS heap id = some r ∧ r.own = true
  | [], [], t, e, _, i, id, hi => by simp [oidL] at hi
  | k :: ks, c :: cs, t, e, he, i, id, hi => by
    simp only [encRL1, Option.bind_eq_some_iff] at he
    obtain ⟨e', h1, h2⟩ := he
    have ih := oidL1_own h1
    unfold encR1 at h2
    split at h2
    · exact ih i id hi
    · exact ih i id hi
    · exact ih i id hi
    · exact ih i id hi
    · rename_i id0
      split at h2
      · rename_i r hr
        split at h2
        · rename_i hq
          simp only [Bool.and_eq_true] at hq
          cases i with
          | zero =>
            simp only [oidL, List.getElem?_cons_zero, Option.some.injEq] at hi
            subst hi
            exact ⟨r, hr, hq.1⟩
          | succ i => exact ih i id (by simpa [oidL] using hi)
        · cases h2
      · cases h2
    · cases i with
      | zero => simp [oidL] at hi
      | succ i => exact ih i id (by simpa [oidL] using hi)
    · cases h2
theorem oidL_own {vk : List VK} {heap : List Ob} {ks : List CK} {cs : List C} {t e : E} (he : encRL vk heap ks cs t = some e) : ∀ (i id : Nat), (oidL ks cs)[i]? = some (some id) → ∃ r, rwS heap id = some r ∧ r.own = true := oidL1_own (encRL_some he)
theorem oids_own {vk : List VK} {heap : List Ob} : ∀ {ss : List Sh} {xs : List (Bool × List C)} {e : E}, encRs vk heap ss xs = some e → ∀ (i id : Nat), (oids ss xs)[i]? = some (some id) → ∃ r, rwS heap id = some r ∧ r.own = true
  | ss, xs, e, he, i, id, hi => by
    unfold encRs at he
    split at he
    · simp [oids] at hi
    · rename_i k ss c l
      rw [Option.bind_eq_some_iff] at he
      obtain ⟨e', h1, h2⟩ := he
      have hi' : (oidL [k] [c] ++ oids ss l)[i]? = some (some id) := hi
      rcases Nat.lt_or_ge i (oidL [k] [c]).length with hlt | hge
      · rw [List.getElem?_append_left hlt] at hi'
        exact oidL_own h2 i id hi'
      · rw [List.getElem?_append_right hge] at hi'
        exact oids_own h1 _ id hi'
    · rename_i ks ss cs l
      rw [Option.bind_eq_some_iff] at he
      obtain ⟨e', h1, h2⟩ := he
      have hi' : (oidL ks cs ++ oids ss l)[i]? = some (some id) := hi
      rcases Nat.lt_or_ge i (oidL ks cs).length with hlt | hge
      · rw [List.getElem?_append_left hlt] at hi'
        exact oidL_own h2 i id hi'
      · rw [List.getElem?_append_right hge] at hi'
        exact oids_own h1 _ id hi'
    · cases he
theorem encRs_len {vk : List VK} {heap : List Ob} : ∀ {ss : List Sh} {xs : List (Bool × List C)} {e : E}, encRs vk heap ss xs = some e → xs.length = ss.length
  | ss, xs, e, he => by
    unfold encRs at he
    split at he
    · rfl
    · rw [Option.bind_eq_some_iff] at he
      obtain ⟨e', h1, _⟩ := he
      simp [encRs_len h1]
    · rw [Option.bind_eq_some_iff] at he
      obtain ⟨e', h1, _⟩ := he
      simp [encRs_len h1]
    · cases he

theorem run_enter {P : Program} {f : FuncId} {fn : Func} (hf : P.funcs[f]? = some fn) (hname : (fn.name == "runtime.NumGoroutine") = false) (hb : fn.body.isNone = false) (args : Array Value) (w : World) : (callFunc f args).run P w = .ok (.enter f args) w := by
  have h1 : fn.name ≠ "runtime.NumGoroutine" := by simpa using hname
  cases hc : fn.body with
  | none => rw [hc] at hb; cases hb
  | some c => simp [callFunc, hf, h1, hc, program, Sem.run_bind, Sem.run]
theorem valOf_den {j : J} {xs : List (Bool × List C)} {vs : List Value} (h : den0L ρ j xs = some vs) : (valOf xs).den ρ j = some (if h : vs.toArray.size = 1 then vs.toArray[0] else .tuple vs.toArray) := by
  have tup : xs.length ≠ 1 → (V.tup xs).den ρ j = some (if h : vs.toArray.size = 1 then vs.toArray[0] else .tuple vs.toArray) := fun hn => by
    have hl := den0L_length h
    rw [dif_neg (by simpa [hl] using hn)]
    simp [V.den, h]
  match xs, h with
  | [], h => exact tup (by simp)
  | [(true, cs)], h =>
    simp only [den0L] at h
    cases hc : den0 ρ j (true, cs) with
    | none => rw [hc] at h; cases h
    | some v => rw [hc] at h; cases h; exact hc
  | [(false, [c])], h =>
    simp only [den0L] at h
    cases hc : den0 ρ j (false, [c]) with
    | none => rw [hc] at h; cases h
    | some v => rw [hc] at h; cases h; exact hc
  | [(false, [])], h => simp [den0L, den0] at h
  | [(false, _ :: _ :: _)], h => simp [den0L, den0] at h
  | x :: y :: l, h =>
    have e : valOf (x :: y :: l) = .tup (x :: y :: l) := by rcases x with ⟨_ | _, _ | ⟨_, _ | ⟨_, _⟩⟩⟩ <;> rfl
    rw [e]
    exact tup (by simp)

/-- Calls in place are sound. -/
theorem callD_ok (hm : P.follows .mixedOrders = true) {fuel : Nat} : ∀ (d : Nat) (cx : Cx), (∀ t i, (t, i) ∈ cx.ty → TIok P t i) → (∀ s ∈ cx.sm, SmOk P sp s) → (∀ s ∈ cx.sm, ∀ s' ∈ cx.sm, s.key = s'.key → s = s') → (∀ p ∈ cx.fns, P.funcs[p.1]? = some p.2.1) → CallOk P sp G cx (callD fuel d cx)
  | 0, cx, _, _, _, _, g, args, s, kw, k, R, ρ, I, n, X, W0, j, a, w, vals, h, _, _, _, _, _ => h.elim
  | d + 1, cx, hT, hS, hkeys, hF, g, args, s, kw, k, R, ρ, I, n, X, W0, j, a, w, vals, h, hg, hr, hl, hd, hR => by
    simp only [callD] at h
    split at h
    · exact h.elim
    · rename_i fn hints cuts hlook
      have hf : P.funcs[g]? = some fn := hF _ (lookN_mem hlook)
      split at h
      · rename_i c hc
        split at h
        · exact h.elim
        · rename_i hname
          refine ⟨run_enter hf (by simpa using hname) (by rw [hc]; rfl) _ w, ?_⟩
          refine calls_of_wp hf hc ?_
          have hsz : vals.toArray.size = args.length := by simpa using hl
          have hasz := hr.rel.size
          have hle : args.length ≤ args.length + (fn.ntmps - args.length) := Nat.le_add_right _ _
          have at0 : ∀ i : Nat, (s.tmps.push args (args.length + (fn.ntmps - args.length))).get? (args.length + (fn.ntmps - args.length) + i) = s.tmps.get? i := fun i => TM.push_old_get s.tmps hle i
          refine codeK_ok (cx := { cx with hints := hints, cuts := cuts }) (n := args.length + (fn.ntmps - args.length)) (X := a.tmps.toList ++ X) (W0 := W0) (callD_ok hm d _ hT hS hkeys hF) hm hT hS hkeys fuel c _ kw _ _ ρ I j _ w h hg
            ⟨⟨rfl, by simp [hl], ?_, ?_, hr.rel.box, hr.rel.nob, hr.rel.inj, hr.rel.row, hr.rel.nor, hr.rel.sep, hr.rel.rsep, hr.rel.fb, hr.rel.ext⟩, ?_, TM.push_n _ _ _⟩ ?_
          · intro t ht
            rcases Nat.lt_or_ge t args.length with h1 | h1
            · obtain ⟨u, hu, hdu⟩ := hd t args[t] (List.getElem?_eq_getElem h1)
              refine ⟨u, ?_, .inr ?_⟩
              · rw [Array.getElem?_append_left (by simpa [hl] using h1)]
                simpa using hu
              · simp only [St.fs, fsOf]
                rw [TM.push_arg s.tmps hle h1, List.getElem?_eq_getElem h1]
                exact hdu
            · refine ⟨Go.undef, ?_, .inr ?_⟩
              · rw [Array.getElem?_append_right (by simpa [hl] using h1)]
                rw [Array.getElem?_replicate, if_pos (by rw [hsz]; omega)]
              · simp only [St.fs, fsOf]
                rw [TM.push_undef s.tmps hle h1 ht]
                rfl
          · intro i v hi
            simp only [St.fs, fsOf, at0]
            rcases Nat.lt_or_ge i n with h1 | h1
            · rw [List.getElem?_append_left (by simpa [hasz] using h1)] at hi
              obtain ⟨v', h2, h3⟩ := hr.rel.tmp i h1
              rw [Array.getElem?_toList, h2] at hi
              cases hi
              exact h3
            · rw [List.getElem?_append_right (by simpa [hasz] using h1)] at hi
              have := hr.rel.sav _ v hi
              simp only [Array.length_toList, hasz] at this
              rw [show n + (i - n) = i by omega] at this
              exact this
          · simp only [TM.push_length, hr.len, List.length_append, Array.length_toList, hasz]
          · intro sg s' kw' ρ' I' j' a' w' h' hg' ha' hI' hl' hv' hr'
            have hr' : At cx ρ' (args.length + (fn.ntmps - args.length)) (a.tmps.toList ++ X) W0 s' j' a' w' := ⟨hr'.rel, hr'.len, hr'.own⟩
            have fin : (match resL cx s' fn.results.toList with
              | some xs => if Nat.beq s'.tmps.old.length (s.tmps.old.length + 1) && Nat.beq s'.tmps.pop.n s.n then k (valOf xs) ⟨s'.tmps.pop, s'.heap⟩ kw' else .stuck 129
              | none => .stuck 81 : Tr).holds sp G ρ' I' → a'.defers = [] ∧ ∃ v, (results fn a'.tmps).run P w' = .ok v w' ∧ ∃ u, Ending.returned v = .returned u ∧ R u w' := by
              intro h'
              split at h'
              · rename_i xs hxs
                split at h' <;> first | exact h'.elim | skip
                rename_i hck
                rw [Bool.and_eq_true] at hck
                have hold : s'.tmps.old ≠ [] := fun e => by
                  have := Nat.eq_of_beq_eq_true hck.1
                  rw [e] at this
                  simp at this
                have hsn : s'.tmps.n = args.length + (fn.ntmps - args.length) := hr'.own
                obtain ⟨vs, h1, h2⟩ := results_ok hT hr' hxs
                refine ⟨hr'.rel.defers, _, h2, _, rfl, hR (valOf xs) _ kw' ρ' I' j' w' _ h' hg' ha' hI' hl' hv' (valOf_den h1) ⟨?_, ?_, (Nat.eq_of_beq_eq_true hck.2).trans hr.own⟩⟩
                · have tmp0 : ∀ i : Nat, (St.mk s'.tmps.pop s'.heap).fs.tmp i = s'.fs.tmp (args.length + (fn.ntmps - args.length) + i) := fun i => by
                    simp only [St.fs, fsOf]
                    rw [TM.pop_get hold, hsn]
                  refine ⟨hr.rel.defers, hasz, fun t ht => ?_, fun i v hi => ?_, hr'.rel.box, hr'.rel.nob, hr'.rel.inj, hr'.rel.row, hr'.rel.nor, hr'.rel.sep, hr'.rel.rsep, hr'.rel.fb, hr'.rel.ext⟩
                  · have ht2 : t < a.tmps.size := by rw [hasz]; exact ht
                    refine ⟨a.tmps[t], Array.getElem?_eq_getElem ht2, ?_⟩
                    rw [tmp0]
                    exact hr'.rel.sav t _ (by rw [List.getElem?_append_left (by simpa using ht2), Array.getElem?_toList]; exact Array.getElem?_eq_getElem ht2)
                  · rw [tmp0]
                    have := hr'.rel.sav (n + i) v (by rw [List.getElem?_append_right (by simp [hasz])]; simpa [hasz] using hi)
                    exact this
                · have h3 := hr'.len
                  simp only [List.length_append, Array.length_toList, hasz] at h3
                  have h4 := TM.pop_length hold
                  show s'.tmps.pop.length = _
                  omega
              · exact h'.elim
            cases sg with
            | exit id => exact h'.elim
            | normal => exact fin h'
            | ret => exact fin h'
      · exact h.elim

/-- THE WHOLE: a function whose run gives the data X on each of its ways returns what X tells, and leaves what was there. -/
theorem funK_ok (hF : ∀ p ∈ cx.fns, P.funcs[p.1]? = some p.2.1) (hm : P.follows .mixedOrders = true) (hT : ∀ t i, (t, i) ∈ cx.ty → TIok P t i) (hS : ∀ s ∈ cx.sm, SmOk P sp s) (hkeys : ∀ s ∈ cx.sm, ∀ s' ∈ cx.sm, s.key = s'.key → s = s') {f : Nat} {fn : Func} (hf : P.funcs[f]? = some fn)
    {fuel : Nat} {args : List V} {heap : List Ob} {kw : Kw} {vals : List Value} {j : J} (hargs : ∀ (i : Nat) x, args[i]? = some x → ∃ u, vals[i]? = some u ∧ x.den ρ j = some u) (hlen : vals.length = args.length) {tup : Bool} (ht : Nat.beq cx.res.length 1 = !tup) {X : List Dt}
    (h : (funK cx fuel fn args heap kw).holds sp (fun ρ e => e.D ρ = X) ρ I) (hg : Good sp cx.sm ρ kw) (w : World) (hst : Start cx ρ heap j w) : Calls P f vals.toArray w fun e w' => ∃ v, e = .returned v ∧ RetOk cx.res tup w w' X v := by
  unfold funK at h
  split at h
  · rename_i c hc
    refine calls_of_wp hf hc ?_
    have hsz : vals.toArray.size = args.length := by simpa using hlen
    have rowAt : ∀ b, (rowH heap b = none ↔ heap.length ≤ b) ∧ ∀ r, rowH heap b = some (some r) → heap[b]? = some (.row r) := by
      intro b
      refine ⟨⟨fun hb => ?_, fun hb => by simp [rowH, List.getElem?_eq_none hb]⟩, fun r hb => ?_⟩
      · rcases Nat.lt_or_ge b heap.length with hlt | hge
        · obtain ⟨r, s, e, _⟩ := hst.row b _ (List.getElem?_eq_getElem hlt)
          simp [rowH, List.getElem?_eq_getElem hlt, e] at hb
        · exact hge
      · unfold rowH at hb
        split at hb
        · rename_i r' hr; cases hb; exact hr
        · cases hb
        · cases hb
    have hown : ∀ b r, rowH heap b = some (some r) → r.own = false := fun b r hb => by
      obtain ⟨r', s, e, h1, _⟩ := hst.row b _ ((rowAt b).2 r hb)
      cases e; exact h1
    have nobox : ∀ b, boxH heap b = none := fun b => by
      unfold boxH
      split
      · rename_i cs ty hb
        obtain ⟨r, s, e, _⟩ := hst.row b _ hb
        cases e
      · rfl
    refine codeK_ok (P := P) (n := args.length + (fn.ntmps - args.length)) (X := []) (W0 := w) (callD_ok hm 12 cx hT hS hkeys hF) hm hT hS hkeys fuel c _ kw _ _ ρ I j _ w h hg ⟨⟨rfl, by simp [hlen], ?_, fun i v hi => (by simp at hi), fun b cs ty hb => ?_, fun b _ => hst.nob b, fun b b' k hb => ?_, fun b r hb => ?_, fun b hb => hst.nos b ((rowAt b).1.1 hb), fun b b' k r s hb => ?_, fun b b' r r' s s' k hb ho => ?_, hst.fb, Ext.refl w⟩, (by rw [TM.push_length]; rfl), TM.push_n _ _ _⟩ ?_
    · intro t ht
      rcases Nat.lt_or_ge t args.length with h1 | h1
      · obtain ⟨u, hu, hd⟩ := hargs t args[t] (List.getElem?_eq_getElem h1)
        refine ⟨u, ?_, .inr ?_⟩
        · rw [Array.getElem?_append_left (by simpa [hlen] using h1)]
          simpa using hu
        · simp only [St.fs, fsOf]
          rw [TM.push_arg _ (Nat.le_add_right _ _) h1, List.getElem?_eq_getElem h1]
          exact hd
      · refine ⟨Go.undef, ?_, .inr ?_⟩
        · rw [Array.getElem?_append_right (by simpa [hlen] using h1)]
          rw [Array.getElem?_replicate, if_pos (by rw [hsz]; omega)]
        · simp only [St.fs, fsOf]
          rw [TM.push_undef _ (Nat.le_add_right _ _) h1 ht]
          rfl
    · rw [show (St.mk (TM.push args (args.length + (fn.ntmps - args.length)) ⟨.leaf (.one .undef), 0, []⟩) heap).fs.box b = boxH heap b from rfl, nobox] at hb
      cases hb
    · rw [hst.nob] at hb; cases hb
    · obtain ⟨r', s, e, h1, h2, h3⟩ := hst.row b _ ((rowAt b).2 r hb)
      cases e
      exact ⟨s, h2, h3⟩
    · rw [hst.nob] at hb; cases hb
    · rw [hown b r hb] at ho; cases ho
    · intro sg s' kw' ρ' I' j' a' w' h' hg' ha' hI' hl' hv' hr'
      have fin : ∀ xs, resL cx s' fn.results.toList = some xs → ∀ e, encRs kw'.vk s'.heap cx.res xs = some e → nodupO (oids cx.res xs) = true → e.D ρ' = X → a'.defers = [] ∧ ∃ v, (results fn a'.tmps).run P w' = .ok v w' ∧ ∃ u, Ending.returned v = .returned u ∧ RetOk cx.res tup w w' X u := by
        intro xs hxs e he hn hX
        obtain ⟨vs, h1, h2⟩ := results_ok hT hr' hxs
        have h3 := encRs_ok hg'.vk hr'.rel he h1
        have h4 := h3.ret (tup := tup) ht (by rw [den0L_length h1, encRs_len he]) hr'.rel.ext (fun i i' a b k hi hi' hk hk' => ?_)
        · rw [hX] at h4
          exact ⟨hr'.rel.defers, _, h2, _, rfl, h4⟩
        · cases a with
          | none => cases hk
          | some a =>
            cases b with
            | none => cases hk'
            | some b =>
              obtain ⟨r, hr1, hr2⟩ := oids_own he i a hi
              obtain ⟨r', hr3, hr4⟩ := oids_own he i' b hi'
              rw [← rwS_rwF] at hr1 hr3
              have q1 := rwF_row hr1
              have q2 := rwF_row hr3
              obtain ⟨s1, t1, _⟩ := hr'.rel.row a r q1
              obtain ⟨s2, t2, _⟩ := hr'.rel.row b r' q2
              simp only [svOf, t1, t2, Option.getD_some] at hk hk'
              have := hr'.rel.rsep a b r r' s1 s2 k q1 hr2 q2 t1 t2 (blk_of hr2 hk) (blk_of hr4 hk')
              subst this
              exact nodupO_at hn i i' a hi hi'
      have fin' : (match resL cx s' fn.results.toList with
          | some xs => match encRs kw'.vk s'.heap cx.res xs with
            | some e => if nodupO (oids cx.res xs) then .leaf e else .stuck 83
            | none => .stuck 84
          | none => .stuck 81 : Tr).holds sp (fun ρ e => e.D ρ = X) ρ' I' → a'.defers = [] ∧ ∃ v, (results fn a'.tmps).run P w' = .ok v w' ∧ ∃ u, Ending.returned v = .returned u ∧ RetOk cx.res tup w w' X u := by
        intro h'
        split at h'
        · rename_i xs hxs
          split at h'
          · rename_i e he
            split at h'
            · rename_i hn; exact fin xs hxs e he hn h'
            · exact h'.elim
          · exact h'.elim
        · exact h'.elim
      cases sg with
      | exit id => exact h'.elim
      | normal => exact fin' h'
      | ret => exact fin' h'
  · exact h.elim
end
end Go.Proofs.Ytoaffiooliclgaa
