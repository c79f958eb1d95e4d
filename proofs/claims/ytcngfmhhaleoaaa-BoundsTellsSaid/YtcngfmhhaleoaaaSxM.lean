/- From a run's tree to a contract: numbers for the calls' results; types checked; contracts as entries. Nothing of the program is in here. -/
import Derived.Test.YtcngfmhhaleoaaaSxL
import Derived.DeepKeys
set_option linter.unusedVariables false
set_option linter.unusedSimpArgs false
namespace Go.Proofs.Ytcngfmhhaleoaaa
open Go.RowKit

/-! ### Scopes -/
def E.sc (n : Nat) : E → Bool
  | .lit _ | .nil | .tt _ => true
  | .var i | .bvar i => Nat.blt i n
  | .bin _ _ a b | .mn a b | .mx a b | .cons a b | .consb a b | .lt a b | .eq a b | .and a b | .beq a b => a.sc n && b.sc n
  | .conv _ a | .not a => a.sc n
def C.sc (n : Nat) : C → Bool
  | .int _ e | .bool e => e.sc n
  | _ => true
def V.sc (n : Nat) : V → Bool
  | .one c => c.sc n
  | .agg cs => cs.all (C.sc n)
  | .tup vs => vs.all fun p => p.2.all (C.sc n)
def Tr.sc : Nat → Tr → Bool
  | _, .leaf _ | _, .panic | _, .stuck _ => true
  | n, .br e t f => e.sc n && (t.sc n && f.sc n)
  | n, .call _ ks args v0 t => args.sc n && (Nat.beq v0 n && t.sc (n + ks.length))
/-- What is to be shown of the tree: the calls' results are given, by equations. -/
def Tr.asks (sp : Spec) (ρ : Env) (G : V → Prop) : Tr → Prop
  | .leaf v => G v
  | .panic => False
  | .stuck _ => False
  | .br e t f => (e.B ρ = true → t.asks sp ρ G) ∧ (e.B ρ = false → f.asks sp ρ G)
  | .call key ks args v0 t => eqs sp ρ key v0 (args.L ρ) 0 ks → t.asks sp ρ G

def Ag (n : Nat) (ρ ρ' : Env) : Prop := ∀ i, i < n → ρ.i i = ρ'.i i ∧ ρ.b i = ρ'.b i
theorem Ag.refl (n : Nat) (ρ : Env) : Ag n ρ ρ := fun _ _ => ⟨rfl, rfl⟩
theorem E.sc_eq {n : Nat} {ρ ρ' : Env} (h : Ag n ρ ρ') : ∀ e : E, e.sc n = true → e.I ρ = e.I ρ' ∧ e.B ρ = e.B ρ' ∧ e.L ρ = e.L ρ' := by
  intro e
  induction e <;> intro hs <;> simp only [E.sc, Bool.and_eq_true] at hs
  case var i => exact ⟨(h i (by simpa [Nat.blt_eq] using hs)).1, rfl, rfl⟩
  case bvar i => exact ⟨rfl, (h i (by simpa [Nat.blt_eq] using hs)).2, rfl⟩
  case lit => exact ⟨rfl, rfl, rfl⟩
  case nil => exact ⟨rfl, rfl, rfl⟩
  case tt => exact ⟨rfl, rfl, rfl⟩
  case conv ih => simp [E.I, E.B, E.L, ih hs]
  case not ih => simp [E.I, E.B, E.L, ih hs]
  all_goals
    rename_i ih1 ih2
    simp [E.I, E.B, E.L, ih1 hs.1, ih2 hs.2]

theorem eqs_of {sp : Spec} {ρ : Env} {key v0 : Nat} {xs : List Int} : ∀ (ks : List CK) (n : Nat), (∀ m, n ≤ m → m < n + ks.length → ρ.i (v0 + m) = sp.I key m xs ∧ ρ.b (v0 + m) = sp.B key m xs) → eqs sp ρ key v0 xs n ks
  | [], _, _ => trivial
  | .int _ :: ks, n, h => ⟨(h n (Nat.le_refl _) (by simp)).1, eqs_of ks (n + 1) (fun m h1 h2 => h m (by omega) (by simp at h2 ⊢; omega))⟩
  | .bool :: ks, n, h => ⟨(h n (Nat.le_refl _) (by simp)).2, eqs_of ks (n + 1) (fun m h1 h2 => h m (by omega) (by simp at h2 ⊢; omega))⟩
  | .fn _ :: ks, n, h => eqs_of ks (n + 1) (fun m h1 h2 => h m (by omega) (by simp at h2 ⊢; omega))
  | .lit _ _ :: ks, n, h => eqs_of ks (n + 1) (fun m h1 h2 => h m (by omega) (by simp at h2 ⊢; omega))

theorem env_exists {sp : Spec} {G : Env → V → Prop} : ∀ (t : Tr) (n : Nat) (ρ : Env), t.sc n = true → (∀ ρ', Ag n ρ ρ' → t.asks sp ρ' (G ρ')) → ∃ ρ', Ag n ρ ρ' ∧ t.holds sp ρ' (G ρ') := by
  intro t
  induction t with
  | leaf v => intro n ρ _ h; exact ⟨ρ, Ag.refl n ρ, h ρ (Ag.refl n ρ)⟩
  | panic => intro n ρ _ h; exact (h ρ (Ag.refl n ρ)).elim
  | stuck m => intro n ρ _ h; exact (h ρ (Ag.refl n ρ)).elim
  | br e t f iht ihf =>
    intro n ρ hs h
    simp only [Tr.sc, Bool.and_eq_true] at hs
    cases hb : e.B ρ with
    | true =>
      obtain ⟨ρ', h1, h2⟩ := iht n ρ hs.2.1 (fun ρ' ha => (h ρ' ha).1 (by rw [← (E.sc_eq ha e hs.1).2.1]; exact hb))
      refine ⟨ρ', h1, fun _ => h2, fun hf => ?_⟩
      rw [← (E.sc_eq h1 e hs.1).2.1, hb] at hf
      cases hf
    | false =>
      obtain ⟨ρ', h1, h2⟩ := ihf n ρ hs.2.2 (fun ρ' ha => (h ρ' ha).2 (by rw [← (E.sc_eq ha e hs.1).2.1]; exact hb))
      refine ⟨ρ', h1, fun hf => ?_, fun _ => h2⟩
      rw [← (E.sc_eq h1 e hs.1).2.1, hb] at hf
      cases hf
  | call key ks args v0 t ih =>
    intro n ρ hs h
    simp only [Tr.sc, Bool.and_eq_true] at hs
    obtain ⟨ha, hv, ht⟩ := hs
    have hv' := Nat.eq_of_beq_eq_true hv
    subst hv'
    let ρ1 : Env := ⟨fun i => if v0 ≤ i then sp.I key (i - v0) (args.L ρ) else ρ.i i, fun i => if v0 ≤ i then sp.B key (i - v0) (args.L ρ) else ρ.b i⟩
    have ag1 : ∀ ρ', Ag (v0 + ks.length) ρ1 ρ' → Ag v0 ρ ρ' := fun ρ' hag i hi => by
      have := hag i (by omega)
      simp only [ρ1, if_neg (show ¬ v0 ≤ i by omega)] at this
      exact this
    have he : ∀ ρ', Ag (v0 + ks.length) ρ1 ρ' → eqs sp ρ' key v0 (args.L ρ') 0 ks := fun ρ' hag => by
      refine eqs_of ks 0 (fun m h1 h2 => ?_)
      have := hag (v0 + m) (by omega)
      simp only [ρ1, if_pos (Nat.le_add_right v0 m), Nat.add_sub_cancel_left] at this
      rw [← this.1, ← this.2, (E.sc_eq (ag1 ρ' hag) args ha).2.2]
      exact ⟨rfl, rfl⟩
    obtain ⟨ρ', h1, h2⟩ := ih (v0 + ks.length) ρ1 ht (fun ρ' hag => h ρ' (ag1 ρ' hag) (he ρ' hag))
    exact ⟨ρ', ag1 ρ' h1, he ρ' h1, h2⟩

/-! ### Types -/
def cSame : C → Value → Bool
  | .int k (.lit z), .int k' z' => kdSame k k' && zSame z z'
  | .bool (.tt b), .bool b' => b == b'
  | .nilp, .pointer none => true
  | _, _ => false
def csSame : List C → List Value → Bool
  | [], [] => true
  | c :: cs, v :: vs => cSame c v && csSame cs vs
  | _, _ => false
theorem cSame_ok {c : C} {v : Value} (h : cSame c v = true) (ρ : Env) (j : Nat → Option Nat) : c.den ρ j = some v := by
  unfold cSame at h
  split at h
  · simp only [Bool.and_eq_true] at h
    rw [kdSame_eq h.1, zSame_eq h.2]; rfl
  · rw [beq_iff_eq] at h; rw [h]; rfl
  · rfl
  · cases h
theorem csSame_ok (ρ : Env) (j : Nat → Option Nat) : ∀ {cs : List C} {vs : List Value}, csSame cs vs = true → denL ρ j cs = some vs
  | [], [], _ => rfl
  | c :: cs, v :: vs, h => by
    simp only [csSame, Bool.and_eq_true] at h
    simp [denL, cSame_ok h.1, csSame_ok ρ j h.2]

def ckFields (P : Program) : List Field → List (Nat × Nat) → Bool
  | [], [] => true
  | f :: fs, (off, ft) :: l => Nat.beq f.offset off && (Nat.beq f.type ft && ((match P.info? ft with | some i => !Nat.beq i.size 0 | none => false) && ckFields P fs l))
  | _, _ => false
def ckTI (P : Program) (t : Nat) (i : TI) : Bool :=
  match P.info? t, P.underlying t with
  | some inf, some d =>
    Nat.beq inf.size i.size && ((match inf.zero with | some z => csSame i.zero z.cells.toList | none => false) &&
    (match d with
      | .struct fs => i.agg && (i.arr.isNone && (i.ik.isNone && (!i.isb && ckFields P fs.toList i.fields)))
      | .array n e => i.agg && ((match i.arr with | some (m, e') => Nat.beq n m && Nat.beq e e' | none => false) && (i.ik.isNone && (!i.isb && i.fields.isEmpty)))
      | .int k => !i.agg && (i.arr.isNone && ((match i.ik with | some k' => kdSame k k' | none => false) && (!i.isb && i.fields.isEmpty)))
      | .bool => !i.agg && (i.arr.isNone && (i.ik.isNone && i.fields.isEmpty))
      | _ => !i.agg && (i.arr.isNone && (i.ik.isNone && (!i.isb && i.fields.isEmpty)))))
  | _, _ => false

theorem ckFields_at {P : Program} : ∀ {fs : List Field} {l : List (Nat × Nat)}, ckFields P fs l = true → ∀ (f off ft : Nat), l[f]? = some (off, ft) → ∃ x, fs[f]? = some x ∧ x.offset = off ∧ x.type = ft ∧ ∃ i, P.info? ft = some i ∧ i.size ≠ 0
  | [], [], _, f, off, ft, h => by simp at h
  | x :: fs, (off', ft') :: l, hc, f, off, ft, h => by
    simp only [ckFields, Bool.and_eq_true] at hc
    cases f with
    | zero =>
      simp only [List.getElem?_cons_zero, Option.some.injEq, Prod.mk.injEq] at h
      obtain ⟨rfl, rfl⟩ := h
      refine ⟨x, rfl, Nat.eq_of_beq_eq_true hc.1, Nat.eq_of_beq_eq_true hc.2.1, ?_⟩
      have h3 := hc.2.2.1
      split at h3
      · rename_i i hi
        refine ⟨i, hi, fun e => ?_⟩
        rw [e] at h3
        simp at h3
      · cases h3
    | succ f => exact ckFields_at hc.2.2.2 f off ft (by simpa using h)

theorem ckFields_eq {P : Program} : ∀ {fs : List Field} {l : List (Nat × Nat)}, ckFields P fs l = true → fs.map (fun f => (f.offset, f.type)) = l
  | [], [], _ => rfl
  | x :: fs, (off', ft') :: l, hc => by
    simp only [ckFields, Bool.and_eq_true] at hc
    rw [List.map_cons, ckFields_eq hc.2.2.2, Nat.eq_of_beq_eq_true hc.1, Nat.eq_of_beq_eq_true hc.2.1]
theorem TIok_of {P : Program} {t : Nat} {i : TI} (h : ckTI P t i = true) (heq : i.eqok = true → ∀ vs us, kindsV vs i.zero → kindsV us i.zero → ∀ w, (Op.equal t (.agg vs.toArray) (.agg us.toArray)).run P w = .ok (eqVs vs us) w) (hgrd : i.eqok = true → P.eqGuardType P.depth t = false) : TIok P t i := by
  unfold ckTI at h
  split at h
  · rename_i inf d hinf hd
    simp only [Bool.and_eq_true] at h
    obtain ⟨h1, h2, h3⟩ := h
    have hsz := Nat.eq_of_beq_eq_true h1
    have hti : ∀ w, (typeInfo t).run P w = .ok inf w := fun w => by simp [typeInfo, program, Sem.run_bind, Sem.run, hinf]
    refine ⟨?_, fun w => by simp [sizeOf, Sem.run_bind, hti, hsz], ?_, ?_, ?_, ?_, ?_, ?_, ⟨d, hd⟩, heq, hgrd, ?_⟩
    · intro w
      unfold isAgg
      rw [Sem.run_bind, run_underlying hd]
      cases d <;> simp_all
    · split at h2
      · rename_i z hz
        exact ⟨z, fun w => by simp [zeroValue, Sem.run_bind, hti, hz], fun ρ j => csSame_ok ρ j h2⟩
      · cases h2
    · intro f off ft hf w k o
      cases d <;> simp_all
      rename_i fs
      obtain ⟨x, hx, rfl, rfl, inf', hi, hne⟩ := ckFields_at (P := P) h3.2.2.2.2 f off ft hf
      have hx' : fs[f]? = some x := by rw [← Array.getElem?_toList]; exact hx
      have hs : ∀ w, (sizeOf x.type).run P w = .ok inf'.size w := fun w => by simp [sizeOf, typeInfo, program, Sem.run_bind, Sem.run, hi]
      simp [Instr.fieldAt, run_underlying hd, Sem.run_bind, hx', Instr.sureAddr, fieldPlace, hs, hne, add_none]
    · intro f off ft hf w cs
      cases d <;> simp_all
      rename_i fs
      obtain ⟨x, hx, rfl, rfl, inf', hi, hne⟩ := ckFields_at (P := P) h3.2.2.2.2 f off ft hf
      have hx' : fs[f]? = some x := by rw [← Array.getElem?_toList]; exact hx
      simp [Instr.field, run_underlying hd, Sem.run_bind, hx', asAgg]
    · intro n e ha
      cases d <;> simp_all
    · intro h1 h2
      cases d <;> simp_all
      exact ckFields_eq (P := P) h3.2.2
    · intro k hk
      cases d <;> simp_all
      rw [kdSame_eq h3.2.2.1]
    · intro hb
      cases d <;> simp_all
  · cases h

theorem kindsV_of : ∀ {z z' : List C} {vs : List Value}, kindsC z z' = true → kindsV vs z → kindsV vs z'
  | [], [], vs, _, h => h
  | .int k a :: l, .int k' b :: r, vs, hk, h => by
    simp only [kindsC, Bool.and_eq_true] at hk
    obtain ⟨x, us, rfl, h1, h2⟩ := kindsV_int h
    exact ⟨kdSame_eq hk.1, h1, kindsV_of hk.2 h2⟩
  | .bool a :: l, .bool b :: r, vs, hk, h => by
    simp only [kindsC] at hk
    obtain ⟨x, us, rfl, h2⟩ := kindsV_bool h
    exact kindsV_of (z := l) (z' := r) hk h2
def litsOf : List Value → List Lit
  | .int k x :: l => .int k x :: litsOf l
  | .bool b :: l => .bool b :: litsOf l
  | _ => []
theorem lits_iff : ∀ {z : List C} {vs us : List Value}, kindsV vs z → kindsV us z → (eqVs vs us = true ↔ litsOf vs = litsOf us)
  | [], vs, us, h, h' => by rw [kindsV_nil h, kindsV_nil h']; simp [eqVs]
  | .int k e :: r, vs, us, h, h' => by
    obtain ⟨x, l, rfl, _, h2⟩ := kindsV_int h
    obtain ⟨y, m, rfl, _, g2⟩ := kindsV_int h'
    simp [eqVs, litsOf, lits_iff h2 g2]
  | .bool e :: r, vs, us, h, h' => by
    obtain ⟨x, l, rfl, h2⟩ := kindsV_bool h
    obtain ⟨y, m, rfl, g2⟩ := kindsV_bool h'
    simp [eqVs, litsOf, lits_iff h2 g2]
  | .ptr _ _ :: _, vs, us, h, _ | .fn _ :: _, vs, us, h, _ | .nilp :: _, vs, us, h, _ | .undef :: _, vs, us, h, _ => by
    cases vs with
    | nil => exact h.elim
    | cons v l => cases v <;> exact h.elim
/-- Equality of structs and arrays of whole numbers and truth values. -/
theorem eq_of_keys {P : Program} {t : Nat} {z : List C} (hk : P.keyTypeAt 6 t = true) (hf : ∀ vs, kindsV vs z → (Value.agg vs.toArray).formed P t = true) (D : Nat) (hl : ∀ vs, kindsV vs z → P.keyLits D t vs = some (litsOf vs)) (vs us : List Value) (hv : kindsV vs z) (hu : kindsV us z) (w : World) :
    (Op.equal t (.agg vs.toArray) (.agg us.toArray)).run P w = .ok (eqVs vs us) w := by
  obtain ⟨r, hr, hiff⟩ := run_equalIn_deep (P := P) 9994 6 t hk w D D (.agg vs.toArray) (.agg us.toArray) _ _ (hf vs hv) (hf us hu) (by simpa [Value.cells] using hl vs hv) (by simpa [Value.cells] using hl us hu)
  unfold Op.equal Op.maxDepth
  rw [show (10000 : Nat) = 9994 + 6 from rfl, hr]
  congr 1
  rw [Bool.eq_iff_iff, hiff, lits_iff hv hu]
theorem all_at {f : Nat → TI → Bool} {l : List (Nat × TI)} (h : (l.all fun p => f p.1 p.2) = true) {t : Nat} {i : TI} (hm : (t, i) ∈ l) : f t i = true := List.all_eq_true.1 h (t, i) hm

/-! ### The whole -/
def vkOf (vs : List (Option IntKind)) : Kw := ⟨[], [], vs⟩
theorem fun_calls {P : Program} {sp : Spec} {cx : Cx} (hm : P.follows .mixedOrders = true) (hT : ∀ t i, (t, i) ∈ cx.ty → TIok P t i) (hS : ∀ s ∈ cx.sm, SmOk P sp s) (hkeys : ∀ s ∈ cx.sm, ∀ s' ∈ cx.sm, s.key = s'.key → s = s') {f : Nat} {fn : Func} (hf : P.funcs[f]? = some fn)
    {fuel : Nat} {args : List V} {pc : List (E × Bool)} {vk : List (Option IntKind)} {vals : List Value} {X : Value} {t : Tr} (ρ : Env) (ht : funK cx fuel fn args ⟨pc, [], vk⟩ = t) (hsc : t.sc vk.length = true) (hvk : Vk ρ vk) (hpc : (pc.all fun p => p.1.sc vk.length) = true) (hp : ∀ p ∈ pc, p.1.B ρ = p.2)
    (hargs : ∀ ρ', Ag vk.length ρ ρ' → den0L ρ' (fun _ => none) (args.map fun | .one c => (false, [c]) | .agg cs => (true, cs) | .tup _ => (false, [])) = some vals)
    (h : ∀ ρ', Ag vk.length ρ ρ' → t.asks sp ρ' (fun v => v.den ρ' (fun _ => none) = some X)) : (∀ w, Calls P f vals.toArray w fun e w' => e = .returned X ∧ Ext w w') ∧ valIn X = true := by
  have main : ∀ w, Calls P f vals.toArray w fun e w' => (e = .returned X ∧ Ext w w') ∧ valIn X = true := by
   intro w
   obtain ⟨ρ', h1, h2⟩ := env_exists (G := fun ρ' v => v.den ρ' (fun _ => none) = some X) t vk.length ρ hsc h
   rw [← ht] at h2
   have ha := hargs ρ' h1
   refine funK_ok (ρ := ρ') (args := args) (vals := vals) hm hT hS hkeys hf (fun i x hx => ?_) (by simpa using den0L_length ha) h2 ⟨fun p hp' => ?_, fun n k hk => ?_, fun p hp' => by cases hp'⟩ w
   · obtain ⟨u, hu, hd⟩ := den0L_get ha i _ (by rw [List.getElem?_map, hx]; rfl)
     refine ⟨u, hu, ?_⟩
     cases x with
     | one c => exact hd
     | agg cs => exact hd
     | tup vs => cases hd
   · have := List.all_eq_true.1 hpc p hp'
     rw [← (E.sc_eq h1 p.1 this).2.1]
     exact hp p hp'
   · have hlt : n < vk.length := by
       rcases Nat.lt_or_ge n vk.length with h3 | h3
       · exact h3
       · simp only at hk; rw [List.getElem?_eq_none h3] at hk; cases hk
     rw [← (h1 n hlt).1]
     exact hvk n k hk
  refine ⟨fun w => (main w).mono fun e w' h => h.1, ?_⟩
  obtain ⟨e, w', fr, hr, _⟩ := main default []
  exact hr.2

theorem b01 (t : Bool) : ((if t = true then (1 : Int) else 0) == 1) = t := by cases t <;> rfl

/-! ### Contracts as entries -/
section
variable {xs r : List Int} {vals vs : List Value} {v : Value} {ss : List (Bool × List CK)} {ks : List CK} {k : IntKind}
theorem shN (h : shVal [] xs = some vals) : xs = [] ∧ vals = [] := by
  cases xs with
  | nil => cases h; exact ⟨rfl, rfl⟩
  | cons => cases h
theorem shA (h : shVal ((true, ks) :: ss) xs = some vals) : ∃ vs r us, cksVal ks xs = some (vs, r) ∧ shVal ss r = some us ∧ vals = .agg vs.toArray :: us := by
  simp only [shVal, shOne] at h
  cases hc : cksVal ks xs with
  | none => rw [hc] at h; cases h
  | some p =>
    obtain ⟨vs, r⟩ := p
    rw [hc] at h
    simp only [Option.map_some, Option.map_eq_some_iff] at h
    obtain ⟨us, h1, rfl⟩ := h
    exact ⟨vs, r, us, rfl, h1, rfl⟩
theorem shO {c : CK} (h : shVal ((false, [c]) :: ss) xs = some vals) : ∃ v r us, ckVal c xs = some (v, r) ∧ shVal ss r = some us ∧ vals = v :: us := by
  simp only [shVal, shOne] at h
  cases hc : ckVal c xs with
  | none => rw [hc] at h; cases h
  | some p =>
    obtain ⟨v, r⟩ := p
    rw [hc] at h
    simp only [Option.map_eq_some_iff] at h
    obtain ⟨us, h1, rfl⟩ := h
    exact ⟨v, r, us, rfl, h1, rfl⟩
theorem ckI (h : ckVal (.int k) xs = some (v, r)) : ∃ x, xs = x :: r ∧ v = .int k x ∧ inK k x = true := by
  cases xs with
  | nil => cases h
  | cons x xs =>
    simp only [ckVal] at h
    split at h
    · rename_i hx
      cases h
      exact ⟨x, rfl, rfl, hx⟩
    · cases h
theorem ckB (h : ckVal .bool xs = some (v, r)) : ∃ x, xs = x :: r ∧ v = .bool (x == 1) := by
  cases xs with
  | nil => cases h
  | cons x xs => cases h; exact ⟨x, rfl, rfl⟩
theorem ckF {g : Nat} (h : ckVal (.fn g) xs = some (v, r)) : xs = r ∧ v = .func (.func g) #[] #[] := by
  simp only [ckVal, Option.some.injEq, Prod.mk.injEq] at h
  exact ⟨h.2, h.1.symm⟩
theorem ckT {z : Int} (h : ckVal (.lit k z) xs = some (v, r)) : xs = r ∧ v = .int k z := by
  simp only [ckVal, Option.some.injEq, Prod.mk.injEq] at h
  exact ⟨h.2, h.1.symm⟩
theorem cksN (h : cksVal [] xs = some (vs, r)) : xs = r ∧ vs = [] := by
  cases h; exact ⟨rfl, rfl⟩
theorem cksC {c : CK} (h : cksVal (c :: ks) xs = some (vs, r)) : ∃ v r' us, ckVal c xs = some (v, r') ∧ cksVal ks r' = some (us, r) ∧ vs = v :: us := by
  simp only [cksVal] at h
  split at h
  · rename_i v r' hv
    split at h
    · rename_i us r'' hu
      cases h
      exact ⟨v, r', us, hv, hu, rfl⟩
    · cases h
  · cases h
end

theorem resCells_rng {ρ : Env} {v0 : Nat} : ∀ (ks : List CK) (n : Nat) (vs : List Value), denL ρ (fun _ => none) (resCells v0 n ks) = some vs → vs.all cellIn = true → ∀ (m : Nat) k, ks[m]? = some (.int k) → inK k (ρ.i (v0 + (n + m))) = true
  | [], _, _, _, _, m, k, hm => by simp at hm
  | c :: ks, n, vs, h, ha, m, k, hm => by
    have step : ∃ u us, vs = u :: us ∧ (∀ k', c = .int k' → u = .int k' (ρ.i (v0 + n))) ∧ denL ρ (fun _ => none) (resCells v0 (n + 1) ks) = some us := by
      cases c <;> simp only [resCells, denL, C.den] at h <;> (split at h <;> first | cases h | skip)
      all_goals
        rename_i hu hus
        cases hu
        refine ⟨_, _, rfl, fun k' hk' => ?_, hus⟩
        cases hk'
        try rfl
    obtain ⟨u, us, rfl, h1, h2⟩ := step
    simp only [List.all_cons, Bool.and_eq_true] at ha
    cases m with
    | zero =>
      simp only [List.getElem?_cons_zero, Option.some.injEq] at hm
      have := h1 k hm
      rw [this] at ha
      exact ha.1
    | succ m =>
      have := resCells_rng ks (n + 1) us h2 ha.2 m k (by simpa using hm)
      rw [show n + (m + 1) = n + 1 + m by omega]
      exact this
theorem resParts_rng {ρ : Env} {v0 : Nat} : ∀ (l : List (Bool × List CK)) (n : Nat) (vs : List Value), den0L ρ (fun _ => none) (resParts v0 n l) = some vs → vs.all partIn = true → ∀ (m : Nat) k, (l.flatMap (·.2))[m]? = some (.int k) → inK k (ρ.i (v0 + (n + m))) = true
  | [], _, _, _, _, m, k, hm => by simp at hm
  | (t, ks) :: l, n, vs, h, ha, m, k, hm => by
    simp only [resParts, den0L] at h
    split at h
    · rename_i u us hu hus
      cases h
      simp only [List.all_cons, Bool.and_eq_true] at ha
      rw [List.flatMap_cons] at hm
      rcases Nat.lt_or_ge m ks.length with hlt | hge
      · rw [List.getElem?_append_left hlt] at hm
        cases t with
        | true =>
          simp only [den0, Option.map_eq_some_iff] at hu
          obtain ⟨ws, hws, rfl⟩ := hu
          exact resCells_rng ks n ws hws ha.1 m k hm
        | false =>
          have hone : ∃ w, denL ρ (fun _ => none) (resCells v0 n ks) = some [w] ∧ partIn w = true ∧ u = w := by
            unfold den0 at hu
            split at hu
            · rename_i he; cases he
            · rename_i c he
              simp only [Prod.mk.injEq, true_and] at he
              refine ⟨u, ?_, ha.1, rfl⟩
              rw [he]
              simp [denL, hu]
            · cases hu
          obtain ⟨w, h1, h2, rfl⟩ := hone
          refine resCells_rng ks n [u] h1 ?_ m k hm
          have hcell : cellIn u = true := by
            cases u <;> first | exact h2 | rfl
          simp [hcell]
      · rw [List.getElem?_append_right hge] at hm
        have := resParts_rng l (n + ks.length) us hus ha.2 (m - ks.length) k hm
        rw [show n + m = n + ks.length + (m - ks.length) by omega]
        exact this
    · cases h

def keysB : List Sm → Bool
  | [] => true
  | s :: l => (l.all fun x => !Nat.beq x.key s.key) && keysB l
theorem keys_of : ∀ {l : List Sm}, keysB l = true → ∀ s ∈ l, ∀ s' ∈ l, s.key = s'.key → s = s'
  | [], _, s, hs, _, _, _ => by cases hs
  | x :: l, h, s, hs, s', hs', he => by
    simp only [keysB, Bool.and_eq_true, List.all_eq_true, Bool.not_eq_true'] at h
    rcases List.mem_cons.1 hs with rfl | hs <;> rcases List.mem_cons.1 hs' with rfl | hs'
    · rfl
    · have := h.1 s' (by assumption)
      rw [he] at this
      simp at this
    · have := h.1 s (by assumption)
      rw [he] at this
      simp at this
    · exact keys_of h.2 s (by assumption) s' (by assumption) he
theorem run_enter {P : Program} {f : FuncId} {fn : Func} (hf : P.funcs[f]? = some fn) (hname : (fn.name == "runtime.NumGoroutine") = false) (hb : fn.body.isNone = false) (args : Array Value) (w : World) : (callFunc f args).run P w = .ok (.enter f args) w := by
  have h1 : fn.name ≠ "runtime.NumGoroutine" := by simpa using hname
  cases hc : fn.body with
  | none => rw [hc] at hb; cases hb
  | some c => simp [callFunc, hf, h1, hc, program, Sem.run_bind, Sem.run]

theorem SmOk.of {P : Program} {sp : Spec} {s : Sm} (hrun : ((∀ args w, (callFunc s.f args).run P w = .ok (.enter s.f args) w) ∧ ∀ xs vals, shVal s.args xs = some vals → ∃ X, ((∀ w, Calls P s.f vals.toArray w fun e w' => e = .returned X ∧ Ext w w') ∧ valIn X = true) ∧ ∀ (ρ : Env) v0, eqs sp ρ s.key v0 xs 0 s.ks → (resV s v0).den ρ (fun _ => none) = some X) ∨
      ∀ xs vals, shVal s.args xs = some vals → ∃ X, ((∀ w, (callFunc s.f vals.toArray).run P w = .ok (.value X) w) ∧ valIn X = true) ∧ ∀ (ρ : Env) v0, eqs sp ρ s.key v0 xs 0 s.ks → (resV s v0).den ρ (fun _ => none) = some X)
    (hshape : s.tup = true ∨ (∃ ks, s.res = [(true, ks)]) ∨ ∃ c, s.res = [(false, [c])]) : SmOk P sp s := by
  have hX : ∀ xs vals, shVal s.args xs = some vals → ∃ X, valIn X = true ∧ ∀ (ρ : Env) v0, eqs sp ρ s.key v0 xs 0 s.ks → (resV s v0).den ρ (fun _ => none) = some X := by
    intro xs vals h
    rcases hrun with ⟨_, hc⟩ | hd
    · obtain ⟨X, ⟨_, h1⟩, h2⟩ := hc xs vals h; exact ⟨X, h1, h2⟩
    · obtain ⟨X, ⟨_, h1⟩, h2⟩ := hd xs vals h; exact ⟨X, h1, h2⟩
  refine ⟨?_, fun xs vals h ρ v0 he n k hn => ?_⟩
  · rcases hrun with ⟨hen, hc⟩ | hd
    · refine .inl ⟨hen, fun xs vals h w => ?_⟩
      obtain ⟨X, ⟨h1, _⟩, h2⟩ := hc xs vals h
      exact (h1 w).mono fun e w' he => ⟨⟨X, he.1, h2⟩, he.2⟩
    · refine .inr (fun xs vals h w => ?_)
      obtain ⟨X, ⟨h1, _⟩, h2⟩ := hd xs vals h
      exact ⟨X, h1 w, h2⟩
  · obtain ⟨X, h1, h2⟩ := hX xs vals h
    have h3 := h2 ρ v0 he
    unfold resV at h3
    unfold Sm.ks at hn
    have main : ∀ vs, den0L ρ (fun _ => none) (resParts v0 0 s.res) = some vs → vs.all partIn = true → inK k (ρ.i (v0 + n)) = true := fun vs h4 h5 => by
      have := resParts_rng s.res 0 vs h4 h5 n k hn
      simpa using this
    rcases hshape with ht | ⟨ks, hr⟩ | ⟨c, hr⟩
    · rw [if_pos ht] at h3
      simp only [V.den, Option.map_eq_some_iff] at h3
      obtain ⟨vs, h4, rfl⟩ := h3
      exact main vs h4 (by simpa [valIn] using h1)
    · by_cases ht : s.tup = true
      · rw [if_pos ht] at h3
        simp only [V.den, Option.map_eq_some_iff] at h3
        obtain ⟨vs, h4, rfl⟩ := h3
        exact main vs h4 (by simpa [valIn] using h1)
      · rw [if_neg ht] at h3
        refine main [X] ?_ (by
          have : partIn X = true := by
            cases X <;> first | exact h1 | rfl
          simp [this])
        rw [hr] at h3 ⊢
        simp only [resParts, den0L, den0] at h3 ⊢
        simp only [V.den] at h3
        rw [h3]
    · by_cases ht : s.tup = true
      · rw [if_pos ht] at h3
        simp only [V.den, Option.map_eq_some_iff] at h3
        obtain ⟨vs, h4, rfl⟩ := h3
        exact main vs h4 (by simpa [valIn] using h1)
      · rw [if_neg ht] at h3
        refine main [X] ?_ (by
          have : partIn X = true := by
            cases X <;> first | exact h1 | rfl
          simp [this])
        rw [hr] at h3 ⊢
        cases c <;> simp only [resParts, resCells, den0L, den0] at h3 ⊢ <;> simp only [V.den] at h3 <;> rw [h3]
end Go.Proofs.Ytcngfmhhaleoaaa
