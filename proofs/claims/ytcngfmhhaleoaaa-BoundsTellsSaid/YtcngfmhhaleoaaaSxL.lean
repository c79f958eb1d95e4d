/- The symbolic run of a function's whole code, and that it is sound. Nothing of the program is in here. -/
import Derived.Test.YtcngfmhhaleoaaaSxK
import Derived.LoopN
set_option linter.unusedVariables false
set_option linter.unusedSimpArgs false
namespace Go.Proofs.Ytcngfmhhaleoaaa
open Go.RowKit

/-! ### The order of a drawn region -/
def maskOf (o : Oper) (ms : List Nat) : Nat :=
  o.after.toList.foldl (fun m e => if Region.binds .any e then m ||| (2 ^ e.on ||| ms.getD e.on 0) else m) 0
def pairsOk (ops : Array Oper) (r : Rec) (m : Nat) : Nat → List Rec → Bool
  | _, [] => true
  | k, x :: pre => (m.testBit k || indep ops x r) && pairsOk ops r m (k + 1) pre
def ordK (ops : Array Oper) : List Rec → Nat → List Rec → List Nat → Bool
  | [], _, _, _ => true
  | r :: l, i, pre, ms =>
    (r.o.after.toList.all fun e => !Region.binds .any e || decide (e.on < i)) && (pairsOk ops r (maskOf r.o ms) 0 pre && ordK ops l (i + 1) (pre ++ [r]) (ms ++ [maskOf r.o ms]))

section
variable {ops : Array Oper}

theorem mask_bit {ms : List Nat} {k : Nat} : ∀ (l : List Edge) (m0 : Nat), (l.foldl (fun m e => if Region.binds .any e then m ||| (2 ^ e.on ||| ms.getD e.on 0) else m) m0).testBit k = true →
    m0.testBit k = true ∨ ∃ e ∈ l, Region.binds .any e = true ∧ (k = e.on ∨ (ms.getD e.on 0).testBit k = true)
  | [], m0, h => .inl h
  | e :: l, m0, h => by
    simp only [List.foldl_cons] at h
    rcases mask_bit l _ h with h1 | ⟨e', h1, h2⟩
    · split at h1
      · rename_i hb
        rw [Nat.testBit_or, Nat.testBit_or, Nat.testBit_two_pow, Bool.or_eq_true, Bool.or_eq_true, decide_eq_true_eq] at h1
        rcases h1 with h1 | h1 | h1
        · exact .inl h1
        · exact .inr ⟨e, List.mem_cons_self, hb, .inl h1.symm⟩
        · exact .inr ⟨e, List.mem_cons_self, hb, .inr h1⟩
      · exact .inl h1
    · exact .inr ⟨e', List.mem_cons_of_mem _ h1, h2⟩

theorem pairs_at {r : Rec} {m : Nat} : ∀ (pre : List Rec) (k0 : Nat), pairsOk ops r m k0 pre = true → ∀ (k : Nat) x, pre[k]? = some x → m.testBit (k0 + k) = true ∨ Indep ops x r
  | y :: pre, k0, h, k, x, hk => by
    simp only [pairsOk, Bool.and_eq_true, Bool.or_eq_true] at h
    cases k with
    | zero =>
      simp only [List.getElem?_cons_zero, Option.some.injEq] at hk
      subst hk
      exact h.1.imp id indep_ok
    | succ k =>
      have := pairs_at pre (k0 + 1) h.2 k x (by simpa using hk)
      rwa [Nat.add_assoc, Nat.add_comm 1 k] at this
  | [], _, _, k, x, hk => by simp at hk

theorem ordK_ok (hidx : ∀ (i : Nat) r, ∀ L : List Rec, ops.toList = L.map (·.o) → L[i]? = some r → ops[i]? = some r.o) : ∀ (post pre : List Rec) (ms : List Nat), ops.toList = (pre ++ post).map (·.o) → ordK ops post pre.length pre ms = true → ms.length = pre.length →
    (∀ (i : Nat), i < ms.length → ∀ k, (ms.getD i 0).testBit k = true → ∀ sel, Closed ops sel → (∀ o, ops[i]? = some o → ∀ e ∈ o.after, Region.binds .any e = true → sel e.on = true) → sel k = true) →
    (∀ (i : Nat) r, pre.length ≤ i → (pre ++ post)[i]? = some r → ∀ e ∈ r.o.after, Region.binds .any e = true → e.on < i) ∧
    (∀ (k i : Nat) x r, k < i → pre.length ≤ i → (pre ++ post)[k]? = some x → (pre ++ post)[i]? = some r → Indep ops x r ∨ ∀ sel, Closed ops sel → (∀ o, ops[i]? = some o → ∀ e ∈ o.after, Region.binds .any e = true → sel e.on = true) → sel k = true)
  | [], pre, ms, hl, h, hm, hms => by
    have none : ∀ (i : Nat) r, pre.length ≤ i → ¬ (pre ++ [])[i]? = some r := fun i r hi hr => by
      rw [List.append_nil, List.getElem?_eq_none hi] at hr; cases hr
    exact ⟨fun i r hi hr => absurd hr (none i r hi), fun k i x r _ hi _ hr => absurd hr (none i r hi)⟩
  | r0 :: post, pre, ms, hl, h, hm, hms => by
    simp only [ordK, Bool.and_eq_true] at h
    obtain ⟨h1, h2, h3⟩ := h
    have e1 : pre ++ r0 :: post = (pre ++ [r0]) ++ post := by simp
    have at0 : ops[pre.length]? = some r0.o := hidx pre.length r0 _ hl (by simp)
    have hmask : ∀ k, (maskOf r0.o ms).testBit k = true → ∀ sel, Closed ops sel → (∀ o, ops[pre.length]? = some o → ∀ e ∈ o.after, Region.binds .any e = true → sel e.on = true) → sel k = true := by
      intro k hk sel hc he
      rcases mask_bit _ 0 hk with h4 | ⟨e, h4, h5, h6⟩
      · simp at h4
      · have h4' : e ∈ r0.o.after := by simpa using h4
        have hs := he _ at0 e h4' h5
        rcases h6 with rfl | h6
        · exact hs
        · rcases Nat.lt_or_ge e.on ms.length with h7 | h7
          · exact hms e.on h7 k h6 sel hc (fun o ho e' he' hb => hc e.on o ho hs e' he' hb)
          · rw [List.getD_eq_getElem?_getD, List.getElem?_eq_none h7] at h6
            simp at h6
    obtain ⟨g1, g2⟩ := ordK_ok hidx post (pre ++ [r0]) (ms ++ [maskOf r0.o ms]) (by rw [← e1]; exact hl) (by simpa using h3) (by simp [hm]) (fun i hi k hk => by
      rcases Nat.lt_or_ge i ms.length with h4 | h4
      · rw [List.getD_eq_getElem?_getD, List.getElem?_append_left h4, ← List.getD_eq_getElem?_getD] at hk
        exact hms i h4 k hk
      · have : i = ms.length := by simp at hi; omega
        subst this
        rw [List.getD_eq_getElem?_getD, List.getElem?_append_right (Nat.le_refl _)] at hk
        simp only [Nat.sub_self, List.getElem?_cons_zero, Option.getD_some] at hk
        rw [hm]
        exact hmask k hk)
    rw [e1]
    refine ⟨fun i r hi hr => ?_, fun k i x r hk hi hx hr => ?_⟩
    · rcases Nat.lt_or_ge pre.length i with h4 | h4
      · exact g1 i r (by simp; omega) hr
      · have : i = pre.length := by omega
        subst this
        have : r = r0 := by simpa using hr.symm
        subst this
        intro e he hb
        have := List.all_eq_true.1 h1 e (by simpa using he)
        simpa [hb] using this
    · rcases Nat.lt_or_ge pre.length i with h4 | h4
      · exact g2 k i x r hk (by simp; omega) hx hr
      · have : i = pre.length := by omega
        subst this
        have : r = r0 := by simpa using hr.symm
        subst this
        rw [← e1, List.getElem?_append_left hk] at hx
        rcases pairs_at pre 0 h2 k x hx with h5 | h5
        · rw [Nat.zero_add] at h5
          exact .inr (hmask k h5)
        · exact .inl h5
end

/-! ### Code -/
inductive Sig where
  | normal
  | exit (id : Nat)
  | ret

def loopN (f : St → Kw → (Sig → St → Kw → Tr) → Tr) : Nat → St → Kw → (Sig → St → Kw → Tr) → Tr
  | 0, _, _, _ => .stuck 73
  | n + 1, s, kw, k => f s kw fun sg s kw => match sg with
    | .normal => loopN f n s kw k
    | sg => k sg s kw

def codeK (cx : Cx) (fuel : Nat) : Code → St → Kw → (Sig → St → Kw → Tr) → Tr
  | .skip, s, kw, k => k .normal s kw
  | .label _, s, kw, k => k .normal s kw
  | .region _ ops draw, s, kw, k => opsK cx ops ops.toList s kw fun rs s' kw' =>
    if draw then (if ordK ops rs 0 [] [] then k .normal s' kw' else .stuck 70) else k .normal s' kw'
  | .seq a b, s, kw, k => codeK cx fuel a s kw fun sg s kw => match sg with
    | .normal => codeK cx fuel b s kw k
    | sg => k sg s kw
  | .cond c x y, s, kw, k => match evS s.tmps c with
    | some (.one (.bool e)) => decK e (fun t kw => if t then codeK cx fuel x s kw k else codeK cx fuel y s kw k) kw
    | _ => .stuck 71
  | .block id c, s, kw, k => codeK cx fuel c s kw fun sg s kw => match sg with
    | .exit i => if Nat.beq i id then k .normal s kw else k (.exit i) s kw
    | sg => k sg s kw
  | .loop c, s, kw, k => loopN (codeK cx fuel c) fuel s kw k
  | .exit id, s, kw, k => k (.exit id) s kw
  | .ret, s, kw, k => k .ret s kw
  | _, _, _, _ => .stuck 72

def Sig.exit' : Sig → Exit
  | .normal => .normal
  | .exit id => .exit id
  | .ret => .ret

section
variable {P : Program} {sp : Spec} {ρ : Env} {G : V → Prop} {cx : Cx} {n : Nat} {W0 : World}

/-- A state of the run and one of the machine. -/
structure At (ρ : Env) (n : Nat) (W0 : World) (s : St) (j : Nat → Option Nat) (a : Act) (w : World) : Prop where
  rel : Rel ρ n W0 s.fs j a w
  len : s.tmps.length = n

theorem idx_of {ops : Array Oper} (i : Nat) (r : Rec) (L : List Rec) (hl : ops.toList = L.map (·.o)) (hi : L[i]? = some r) : ops[i]? = some r.o := by
  rw [← Array.getElem?_toList, hl, List.getElem?_map, hi]; rfl

theorem codeK_ok (hm : P.follows .mixedOrders = true) (hT : ∀ t i, (t, i) ∈ cx.ty → TIok P t i) (hS : ∀ s ∈ cx.sm, SmOk P sp s) (hkeys : ∀ s ∈ cx.sm, ∀ s' ∈ cx.sm, s.key = s'.key → s = s') (fuel : Nat) :
    ∀ (c : Code) (s : St) (kw : Kw) (k : Sig → St → Kw → Tr) (Q : Exit → Act → World → Prop) (j : Nat → Option Nat) (a : Act) (w : World), (codeK cx fuel c s kw k).holds sp ρ G → Good sp cx.sm ρ kw → At ρ n W0 s j a w →
      (∀ sg s' kw' j' a' w', (k sg s' kw').holds sp ρ G → Good sp cx.sm ρ kw' → At ρ n W0 s' j' a' w' → Q sg.exit' a' w') → c.wp P Q a w := by
  intro c
  induction c with
  | skip => intro s kw k Q j a w h hg hr hQ; exact wp_skip (hQ _ _ _ _ _ _ h hg hr)
  | label l => intro s kw k Q j a w h hg hr hQ; exact wp_label (hQ _ _ _ _ _ _ h hg hr)
  | exit id => intro s kw k Q j a w h hg hr hQ; exact wp_exit (hQ (.exit id) _ _ _ _ _ h hg hr)
  | ret => intro s kw k Q j a w h hg hr hQ; exact wp_ret (hQ .ret _ _ _ _ _ h hg hr)
  | region id ops draw =>
    intro s kw k Q j a w h hg hr hQ
    obtain ⟨rs, s', kw', h1, g1, h2, h3, h4, h5⟩ := opsK_ok (P := P) hT hS hkeys ops.toList s kw _ h hg
    rw [hr.len] at h5
    have fin : ∀ j' a' w', (k .normal s' kw').holds sp ρ G → Rel ρ n W0 (full rs s.fs) j' a' w' → Q .normal a' w' := fun j' a' w' hk hr' =>
      hQ .normal s' kw' j' a' w' hk g1 ⟨by rw [h3]; exact hr', by rw [h4]; exact hr.len⟩
    cases draw with
    | false =>
      refine wp_region ?_
      have hsz : ops.size = rs.length := by rw [← Array.length_toList, ← h2, List.length_map]
      rw [hsz, List.range_eq_range']
      exact region_seq (P := P) rs [] s.fs (by simpa using h2.symm) (by simpa using h5) (by simpa [full] using hr.rel) (fun j' a' w' hr' => fin j' a' w' h1 (by simpa using hr'))
    | true =>
      simp only [if_true] at h1
      split at h1
      · rename_i hord
        obtain ⟨g2, g3⟩ := ordK_ok (ops := ops) idx_of rs [] [] (by simpa using h2.symm) hord rfl (fun i hi => by simp at hi)
        refine wp_region_any hm ?_
        have hsz : ops.size = rs.length := by rw [← Array.length_toList, ← h2, List.length_map]
        refine region_any (F0 := s.fs) (L := rs) h2.symm h5 (fun i o ho e he hb => ?_) (fun k i x r hk hx hri => by simpa using g3 k i x r hk (Nat.zero_le _) (by simpa using hx) (by simpa using hri)) (fun j' a' w' hr' => fin j' a' w' h1 hr') ops.size (Array.replicate ops.size false) j a _ (by simp [hsz]) ?_ ?_ ?_
        · have hlt : i < rs.length := by
            rw [← hsz]
            rcases Nat.lt_or_ge i ops.size with h6 | h6
            · exact h6
            · rw [Array.getElem?_eq_none h6] at ho; cases ho
          have hri : rs[i]? = some rs[i] := List.getElem?_eq_getElem hlt
          have := idx_of i _ rs h2.symm hri
          rw [ho] at this
          cases this
          exact g2 i _ (Nat.zero_le _) (by simp) e he hb
        · intro i o _ hs
          simp only [Array.getD_eq_getD_getElem?, Array.getElem?_replicate] at hs
          split at hs <;> simp at hs
        · exact Nat.le_trans List.countP_le_length (by simp [hsz])
        · rw [part_none rs 0 s.fs (fun m hm => by
            simp only [Array.getD_eq_getD_getElem?, Array.getElem?_replicate]
            split <;> simp)]
          exact hr.rel.more (Ext.refl w).drew
      · exact h1.elim
  | seq x y ihx ihy =>
    intro s kw k Q j a w h hg hr hQ
    refine wp_seq (ihx s kw _ _ j a w h hg hr (fun sg s' kw' j' a' w' h' hg' hr' => ?_))
    cases sg with
    | normal => exact ihy s' kw' k Q j' a' w' h' hg' hr' hQ
    | exit id => exact hQ (.exit id) s' kw' j' a' w' h' hg' hr'
    | ret => exact hQ .ret s' kw' j' a' w' h' hg' hr'
  | cond c x y ihx ihy =>
    intro s kw k Q j a w h hg hr hQ
    simp only [codeK] at h
    split at h
    · rename_i e he
      have hc : a.eval c = .bool (e.B ρ) := by
        have h1 := hr.rel.eval (x := c) (v := .one (.bool e)) (by rw [← hr.len, evS_evF]; exact he)
        exact one_bool h1
      obtain ⟨kw1, h1, g1⟩ := decK_ok _ _ _ h hg
      refine wp_cond_split hc (fun ht => ?_) (fun ht => ?_)
      · rw [ht] at h1
        exact ihx s kw1 k Q j a w h1 g1 hr hQ
      · rw [ht] at h1
        exact ihy s kw1 k Q j a w h1 g1 hr hQ
    · exact h.elim
  | block id c ih =>
    intro s kw k Q j a w h hg hr hQ
    refine wp_block (ih s kw _ _ j a w h hg hr (fun sg s' kw' j' a' w' h' hg' hr' => ?_))
    cases sg with
    | normal => exact hQ .normal s' kw' j' a' w' h' hg' hr'
    | ret => exact hQ .ret s' kw' j' a' w' h' hg' hr'
    | exit i =>
      dsimp only at h'
      unfold Sig.exit' Exit.inBlock
      dsimp only
      split at h'
      · rename_i hi
        rw [if_pos (Nat.eq_of_beq_eq_true hi)]
        exact hQ .normal s' kw' j' a' w' h' hg' hr'
      · rename_i hi
        rw [if_neg (fun e => hi (by rw [e]; simp))]
        exact hQ (.exit i) s' kw' j' a' w' h' hg' hr'
  | loop c ih =>
    intro s kw k Q j a w h hg hr hQ
    simp only [codeK] at h
    refine wp_loop_rounds fuel ?_
    have key : ∀ (m : Nat) (s : St) (kw : Kw) (j : Nat → Option Nat) (a : Act) (w : World), (loopN (codeK cx fuel c) m s kw k).holds sp ρ G → Good sp cx.sm ρ kw → At ρ n W0 s j a w → Code.rounds P c Q m a w := by
      intro m
      induction m with
      | zero => intro s kw j a w h hg hr; exact h.elim
      | succ m ihm =>
        intro s kw j a w h hg hr
        rw [rounds_succ]
        simp only [loopN] at h
        refine ih s kw _ _ j a w h hg hr (fun sg s' kw' j' a' w' h' hg' hr' => ?_)
        cases sg with
        | normal => exact ihm s' kw' j' a' w' h' hg' hr'
        | exit id => exact hQ (.exit id) s' kw' j' a' w' h' hg' hr'
        | ret => exact hQ .ret s' kw' j' a' w' h' hg' hr'
    exact key fuel s kw j a w h hg hr
  | _ => intro s kw k Q j a w h; exact h.elim

/-! ### Results, and the whole function -/
def resOne (cx : Cx) (s : St) : ResultVar → Option (Bool × List C)
  | .tmp t => match s.tmps[t]? with
    | some (.one c) => some (false, [c])
    | some (.agg cs) => some (true, cs)
    | _ => none
  | .cell t ty => match s.tmps[t]?, lookN ty cx.ty with
    | some (.one (.ptr b o)), some i => if i.agg then (rowOf (ldS s.heap) b o i.size).map (true, ·) else (ldS s.heap b o).map (false, [·])
    | _, _ => none
def resL (cx : Cx) (s : St) : List ResultVar → Option (List (Bool × List C))
  | [] => some []
  | r :: l => match resOne cx s r, resL cx s l with
    | some x, some xs => some (x :: xs)
    | _, _ => none
def resOf (cx : Cx) (s : St) (l : List ResultVar) : Option V :=
  match resL cx s l with
  | some [(true, cs)] => some (.agg cs)
  | some [(false, [c])] => some (.one c)
  | some [_] => none
  | some xs => some (.tup xs)
  | none => none

def V.rng (vk : List (Option IntKind)) : V → Bool
  | .one c => c.rng vk
  | .agg cs => cs.all (C.rng vk)
  | .tup vs => vs.all fun p => p.2.all (C.rng vk)
def cellIn : Value → Bool
  | .int k z => inK k z
  | _ => true
def partIn : Value → Bool
  | .agg cs => cs.toList.all cellIn
  | v => cellIn v
def valIn : Value → Bool
  | .tuple vs => vs.toList.all partIn
  | v => partIn v

def funK (cx : Cx) (fuel : Nat) (fn : Func) (args : List V) (kw : Kw) : Tr :=
  match fn.body with
  | some c => codeK cx fuel c ⟨args ++ List.replicate (fn.ntmps - args.length) (.one .undef), []⟩ kw fun sg s kw => match sg with
    | .exit _ => .stuck 80
    | _ => match resOf cx s fn.results.toList with
      | some v => if v.rng kw.vk then .leaf v else .stuck 83
      | none => .stuck 81
  | none => .stuck 82

theorem rowOf_ok {j : Nat → Option Nat} {a : Act} {w : World} {s : St} (h : Rel ρ n W0 s.fs j a w) {b k : Nat} (hj : j b = some k) : ∀ (m o : Nat), RdOk ρ j w (ldS s.heap) (rowRd b o m) := by
  intro m
  induction m with
  | zero => intro o p hp; cases hp
  | succ m ih =>
    intro o p hp c hc
    obtain ⟨k', v, h1, h2, h3, _⟩ := ldF_cell h (b := p.1) (o := p.2) (c := c) hc
    exact ⟨k', v, h1, h2, h3⟩

theorem den0L_length {j : Nat → Option Nat} : ∀ {cs : List (Bool × List C)} {vs : List Value}, den0L ρ j cs = some vs → vs.length = cs.length
  | [], vs, h => by cases h; rfl
  | c :: cs, vs, h => by
    simp only [den0L] at h
    cases hc : den0 ρ j c with
    | none => rw [hc] at h; cases h
    | some v =>
      cases hl : den0L ρ j cs with
      | none => rw [hc, hl] at h; cases h
      | some l => rw [hc, hl] at h; cases h; simp [den0L_length hl]

def resSem (tmps : Array Value) : ResultVar → Sem Value
  | .tmp t => pure (tmps.getD t undef)
  | .cell a t => do loadVar t (← asAddr (tmps.getD a undef))
theorem results_eq (fn : Func) (tmps : Array Value) : results fn tmps = (do let vs ← fn.results.mapM (resSem tmps); pure (if h : vs.size = 1 then vs[0] else .tuple vs)) := by
  unfold results
  congr 2

theorem resOne_ok (hT : ∀ t i, (t, i) ∈ cx.ty → TIok P t i) {j : Nat → Option Nat} {a : Act} {w : World} {s : St} (h : At ρ n W0 s j a w) {r : ResultVar} {x : Bool × List C} (hx : resOne cx s r = some x) :
    ∃ v, den0 ρ j x = some v ∧ (resSem a.tmps r).run P w = .ok v w := by
  have tmpv : ∀ t u, s.tmps[t]? = some u → u.den ρ j = some (a.tmps.getD t undef) := fun t u hu => h.rel.eval (x := .tmp t) (by rw [← h.len, evS_evF]; exact hu)
  cases r with
  | tmp t =>
    simp only [resOne] at hx
    split at hx
    · rename_i c hc
      cases hx
      exact ⟨_, tmpv t _ hc, by simp [resSem]⟩
    · rename_i cs hc
      cases hx
      exact ⟨_, tmpv t _ hc, by simp [resSem]⟩
    · cases hx
  | cell t ty =>
    simp only [resOne] at hx
    split at hx
    · rename_i b o i hb hi
      obtain ⟨kk, hk, hp⟩ := ptr_of (tmpv t _ hb)
      have ht := hT _ _ (lookN_mem hi)
      split at hx
      · rename_i hagg
        rw [Option.map_eq_some_iff] at hx
        obtain ⟨cs, hcs, rfl⟩ := hx
        obtain ⟨vs, h1, h2⟩ := run_loadCells (P := P) hk i.size o cs hcs w (rowOf_ok h.rel hk i.size o) ⟨kk, o, none⟩ 0 #[] (fun m => by rw [add_none]; simp)
        refine ⟨.agg vs.toArray, by simp [den0, h1], ?_⟩
        simp [resSem, hp, asAddr, Sem.run_bind, loadVar, ht.agg, hagg, ht.size, loadCells, h2]
      · rename_i hagg
        rw [Option.map_eq_some_iff] at hx
        obtain ⟨c, hc, rfl⟩ := hx
        obtain ⟨k', v, h1, h2, h3, _⟩ := ldF_cell h.rel (b := b) (o := o) (c := c) hc
        rw [hk] at h1; cases h1
        have hagg' : i.agg = false := by simpa using hagg
        refine ⟨v, h2, ?_⟩
        simp [resSem, hp, asAddr, Sem.run_bind, loadVar, ht.agg, hagg', load, Sem.run, h3]
    · cases hx

theorem resL_ok (hT : ∀ t i, (t, i) ∈ cx.ty → TIok P t i) {j : Nat → Option Nat} {a : Act} {w : World} {s : St} (h : At ρ n W0 s j a w) : ∀ (l : List ResultVar) (xs : List (Bool × List C)), resL cx s l = some xs →
    ∃ vs, den0L ρ j xs = some vs ∧ vs.length = l.length ∧ (l.mapM (resSem a.tmps)).run P w = .ok vs w
  | [], xs, hx => by cases hx; exact ⟨[], rfl, rfl, by simp⟩
  | r :: l, xs, hx => by
    simp only [resL] at hx
    split at hx
    · rename_i x ys h1 h2
      cases hx
      obtain ⟨v, h3, h4⟩ := resOne_ok hT h h1
      obtain ⟨vs, h5, h6, h7⟩ := resL_ok hT h l ys h2
      refine ⟨v :: vs, by simp [den0L, h3, h5], by simp [h6], ?_⟩
      rw [List.mapM_cons]
      simp only [Sem.run_bind]
      rw [h4]
      simp only [Result.andThen_ok, h7]
      simp
    · cases hx

theorem resOf_ok (hT : ∀ t i, (t, i) ∈ cx.ty → TIok P t i) {j : Nat → Option Nat} {a : Act} {w : World} {s : St} (h : At ρ n W0 s j a w) {fn : Func} {v : V} (hv : resOf cx s fn.results.toList = some v) : ∃ u, v.den ρ j = some u ∧ (results fn a.tmps).run P w = .ok u w := by
  unfold resOf at hv
  cases hx : resL cx s fn.results.toList with
  | none => rw [hx] at hv; cases hv
  | some xs =>
    rw [hx] at hv
    obtain ⟨vs, h1, h2, h3⟩ := resL_ok hT h _ xs hx
    have h4 : (results fn a.tmps).run P w = .ok (if h : vs.toArray.size = 1 then vs.toArray[0] else .tuple vs.toArray) w := by
      rw [results_eq, Sem.run_bind, Array.mapM_eq_mapM_toList]
      rw [show (List.toArray <$> List.mapM (resSem a.tmps) fn.results.toList : Sem (Array Value)) = (do let l ← List.mapM (resSem a.tmps) fn.results.toList; pure l.toArray) from rfl]
      simp [Sem.run_bind, h3]
    rw [h4]
    match xs, vs, h1, hv with
    | [], [], h1, hv => cases hv; exact ⟨_, by simp only [V.den, den0L]; rfl, by simp⟩
    | [(true, cs)], [u], h1, hv =>
      cases hv
      simp only [den0L] at h1
      cases hd : den0 ρ j (true, cs) with
      | none => rw [hd] at h1; cases h1
      | some u' =>
        rw [hd] at h1
        cases h1
        exact ⟨u, hd, by simp⟩
    | [(false, [c])], [u], h1, hv =>
      cases hv
      simp only [den0L] at h1
      cases hd : den0 ρ j (false, [c]) with
      | none => rw [hd] at h1; cases h1
      | some u' =>
        rw [hd] at h1
        cases h1
        exact ⟨u, hd, by simp⟩
    | [(false, [])], _, h1, hv => cases hv
    | [(false, _ :: _ :: _)], _, h1, hv => cases hv
    | x :: y :: zs, vs, h1, hv =>
      have hv' : v = .tup (x :: y :: zs) := by
        revert hv
        rcases x with ⟨_ | _, _ | ⟨_, _ | _⟩⟩ <;> intro hv <;> cases hv <;> rfl
      subst hv'
      have hlen : vs.length ≠ 1 := by
        simp only [den0L] at h1
        split at h1
        · rename_i v0 vs0 hd0 hl0
          cases h1
          split at hl0
          · cases hl0; simp
          · cases hl0
        · cases h1
      exact ⟨.tuple vs.toArray, by simp [V.den, h1], by simp [hlen]⟩
    | [], _ :: _, h1, hv => cases h1
    | [_], [], h1, hv => have := den0L_length h1; simp at this
    | [_], _ :: _ :: _, h1, hv => have := den0L_length h1; simp at this

theorem C.rng_ok {vk : List (Option IntKind)} (hv : Vk ρ vk) {j : Nat → Option Nat} {c : C} {v : Value} (h : c.rng vk = true) (hd : c.den ρ j = some v) : cellIn v = true ∧ (∀ x : V, x = .one c → valIn v = true) ∧ partIn v = true := by
  cases c <;> simp only [C.den, Option.map_eq_some_iff] at hd
  case int k e =>
    cases hd
    have := E.rng_ok hv e h
    exact ⟨this, fun _ _ => this, this⟩
  case ptr b o => obtain ⟨k, _, rfl⟩ := hd; exact ⟨rfl, fun _ _ => rfl, rfl⟩
  all_goals cases hd; exact ⟨rfl, fun _ _ => rfl, rfl⟩
theorem denL_rng {vk : List (Option IntKind)} (hv : Vk ρ vk) {j : Nat → Option Nat} : ∀ {cs : List C} {vs : List Value}, cs.all (C.rng vk) = true → denL ρ j cs = some vs → vs.all cellIn = true
  | [], vs, _, h => by cases h; rfl
  | c :: cs, vs, ha, h => by
    simp only [List.all_cons, Bool.and_eq_true] at ha
    simp only [denL] at h
    cases hc : c.den ρ j with
    | none => rw [hc] at h; cases h
    | some v =>
      cases hl : denL ρ j cs with
      | none => rw [hc, hl] at h; cases h
      | some l =>
        rw [hc, hl] at h; cases h
        simp [(C.rng_ok hv ha.1 hc).1, denL_rng hv ha.2 hl]
theorem den0_rng {vk : List (Option IntKind)} (hv : Vk ρ vk) {j : Nat → Option Nat} {p : Bool × List C} {v : Value} (h : p.2.all (C.rng vk) = true) (hd : den0 ρ j p = some v) : partIn v = true := by
  obtain ⟨t, cs⟩ := p
  cases t with
  | true =>
    simp only [den0, Option.map_eq_some_iff] at hd
    obtain ⟨vs, hvs, rfl⟩ := hd
    exact denL_rng hv h hvs
  | false =>
    match cs, hd with
    | [c], hd =>
      simp only [List.all_cons, List.all_nil, Bool.and_true] at h
      exact (C.rng_ok hv h hd).2.2
theorem den0L_rng {vk : List (Option IntKind)} (hv : Vk ρ vk) {j : Nat → Option Nat} : ∀ {cs : List (Bool × List C)} {vs : List Value}, (cs.all fun p => p.2.all (C.rng vk)) = true → den0L ρ j cs = some vs → vs.all partIn = true
  | [], vs, _, h => by cases h; rfl
  | c :: cs, vs, ha, h => by
    simp only [List.all_cons, Bool.and_eq_true] at ha
    simp only [den0L] at h
    cases hc : den0 ρ j c with
    | none => rw [hc] at h; cases h
    | some v =>
      cases hl : den0L ρ j cs with
      | none => rw [hc, hl] at h; cases h
      | some l =>
        rw [hc, hl] at h; cases h
        simp only [List.all_cons, Bool.and_eq_true]
        exact ⟨den0_rng hv (by simpa using ha.1) hc, den0L_rng hv (by simpa using ha.2) hl⟩
theorem V.rng_ok {vk : List (Option IntKind)} (hv : Vk ρ vk) {j : Nat → Option Nat} {x : V} {v : Value} (h : x.rng vk = true) (hd : x.den ρ j = some v) : valIn v = true := by
  cases x with
  | one c => exact (C.rng_ok hv h hd).2.1 _ rfl
  | agg cs =>
    simp only [V.den, Option.map_eq_some_iff] at hd
    obtain ⟨vs, hvs, rfl⟩ := hd
    exact denL_rng hv h hvs
  | tup vs =>
    simp only [V.den, Option.map_eq_some_iff] at hd
    obtain ⟨us, hus, rfl⟩ := hd
    exact den0L_rng hv h hus

/-- THE WHOLE: a function whose run meets G on each of its ways returns what G says, and leaves what was there. -/
theorem funK_ok (hm : P.follows .mixedOrders = true) (hT : ∀ t i, (t, i) ∈ cx.ty → TIok P t i) (hS : ∀ s ∈ cx.sm, SmOk P sp s) (hkeys : ∀ s ∈ cx.sm, ∀ s' ∈ cx.sm, s.key = s'.key → s = s') {f : Nat} {fn : Func} (hf : P.funcs[f]? = some fn)
    {fuel : Nat} {args : List V} {kw : Kw} {vals : List Value} (hargs : ∀ (i : Nat) x, args[i]? = some x → ∃ u, vals[i]? = some u ∧ x.den ρ (fun _ => none) = some u) (hlen : vals.length = args.length) {X : Value}
    (h : (funK cx fuel fn args kw).holds sp ρ (fun v => v.den ρ (fun _ => none) = some X)) (hg : Good sp cx.sm ρ kw) (w : World) : Calls P f vals.toArray w fun e w' => (e = .returned X ∧ Ext w w') ∧ valIn X = true := by
  unfold funK at h
  split at h
  · rename_i c hc
    refine calls_of_wp hf hc ?_
    have hsz : vals.toArray.size = args.length := by simpa using hlen
    refine codeK_ok (P := P) (ρ := ρ) (n := args.length + (fn.ntmps - args.length)) (W0 := w) hm hT hS hkeys fuel c _ kw _ _ (fun _ => none) _ w h hg ⟨⟨rfl, by simp [hlen], ?_, fun b cs ty hb => (by simp [St.fs] at hb), fun _ _ => rfl, fun b b' k hb => (by cases hb), Ext.refl w⟩, by simp⟩ ?_
    · intro t ht
      rcases Nat.lt_or_ge t args.length with h1 | h1
      · obtain ⟨u, hu, hd⟩ := hargs t args[t] (List.getElem?_eq_getElem h1)
        refine ⟨u, ?_, ?_⟩
        · rw [Array.getElem?_append_left (by simpa [hlen] using h1)]
          simpa using hu
        · simp only [St.fs]
          rw [List.getElem?_append_left h1, List.getElem?_eq_getElem h1]
          exact hd
      · refine ⟨Go.undef, ?_, ?_⟩
        · rw [Array.getElem?_append_right (by simpa [hlen] using h1)]
          rw [Array.getElem?_replicate, if_pos (by rw [hsz]; omega)]
        · simp only [St.fs]
          rw [List.getElem?_append_right h1, List.getElem?_replicate, if_pos (by omega)]
          rfl
    · intro sg s' kw' j' a' w' h' hg' hr'
      have fin : ∀ v, resOf cx s' fn.results.toList = some v → v.rng kw'.vk = true → v.den ρ (fun _ => none) = some X → a'.defers = [] ∧ ∃ v, (results fn a'.tmps).run P w' = .ok v w' ∧ ((Ending.returned v = .returned X ∧ Ext w w') ∧ valIn X = true) := by
        intro v hv hrg hX
        obtain ⟨u, h1, h2⟩ := resOf_ok hT hr' hv
        rw [V.den_sub (fun _ _ hh => by cases hh) hX] at h1
        cases h1
        exact ⟨hr'.rel.defers, X, h2, ⟨rfl, hr'.rel.ext⟩, V.rng_ok hg'.vk hrg hX⟩
      cases sg with
      | exit id => exact h'.elim
      | normal =>
        dsimp only at h'
        split at h'
        · rename_i v hv
          split at h'
          · rename_i hrg; exact fin v hv hrg h'
          · exact h'.elim
        · exact h'.elim
      | ret =>
        dsimp only at h'
        split at h'
        · rename_i v hv
          split at h'
          · rename_i hrg; exact fin v hv hrg h'
          · exact h'.elim
        · exact h'.elim
  · exact h.elim
end
end Go.Proofs.Ytcngfmhhaleoaaa
