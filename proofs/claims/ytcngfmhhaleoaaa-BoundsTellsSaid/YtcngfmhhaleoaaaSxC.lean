/- What each kind of operation does in a symbolic run. Nothing of the program is in here. -/
import Derived.Test.YtcngfmhhaleoaaaSxB
import Derived.Laws.EntriesVeiled
set_option linter.unusedVariables false
set_option linter.unusedSimpArgs false
namespace Go.Proofs.Ytcngfmhhaleoaaa
open Go.RowKit

structure Eff where
  val : V
  al : Option (List C × Nat) := none
  rd : List (Nat × Nat) := []
  wr : List (Nat × Nat × C) := []
  deriving Repr, Inhabited

def ofCell : Value → Option C
  | .int k z => some (.int k (.lit z))
  | .bool b => some (.bool (.tt b))
  | .pointer none => some .nilp
  | .func (.func f) ⟨[]⟩ ⟨[]⟩ => some (.fn f)
  | _ => none
def ofCells : List Value → Option (List C)
  | [] => some []
  | v :: vs => match ofCell v, ofCells vs with
    | some c, some cs => some (c :: cs)
    | _, _ => none
def ofValue : Value → Option V
  | .agg ⟨vs⟩ => (ofCells vs).map .agg
  | v => (ofCell v).map .one

theorem ofCell_ok {v : Value} {c : C} (h : ofCell v = some c) (ρ : Env) (j : Nat → Option Nat) : c.den ρ j = some v := by
  unfold ofCell at h
  split at h <;> cases h <;> rfl
theorem ofCells_ok (ρ : Env) (j : Nat → Option Nat) : ∀ {vs : List Value} {cs : List C}, ofCells vs = some cs → denL ρ j cs = some vs
  | [], cs, h => by cases h; rfl
  | v :: vs, cs, h => by
    simp only [ofCells] at h
    cases hc : ofCell v with
    | none => rw [hc] at h; cases h
    | some c =>
      cases hl : ofCells vs with
      | none => rw [hc, hl] at h; cases h
      | some l =>
        rw [hc, hl] at h; cases h
        simp only [denL, ofCell_ok hc, ofCells_ok ρ j hl]
theorem ofValue_ok {v : Value} {x : V} (h : ofValue v = some x) (ρ : Env) (j : Nat → Option Nat) : x.den ρ j = some v := by
  unfold ofValue at h
  split at h
  · rename_i vs
    cases hc : ofCells vs with
    | none => rw [hc] at h; cases h
    | some cs =>
      rw [hc] at h; cases h
      simp [V.den, ofCells_ok ρ j hc]
  · cases hc : ofCell v with
    | none => rw [hc] at h; cases h
    | some c =>
      rw [hc] at h; cases h
      exact ofCell_ok hc ρ j

def V.cells : V → List C
  | .one c => [c]
  | .agg cs => cs
  | .tup _ => []
def V.flat : V → Bool
  | .tup _ => false
  | _ => true
theorem den_oneCell {ρ : Env} {j : Nat → Option Nat} {c : C} {v : Value} (h : c.den ρ j = some v) : v.cells = #[v] := by
  cases c <;> simp only [C.den, Option.map_eq_some_iff] at h
  case ptr b o => obtain ⟨k, _, rfl⟩ := h; rfl
  all_goals cases h; rfl
theorem V.cells_ok {ρ : Env} {j : Nat → Option Nat} {x : V} {v : Value} (h : x.den ρ j = some v) (hf : x.flat = true) : denL ρ j x.cells = some v.cells.toList := by
  cases x with
  | one c =>
    have h' : c.den ρ j = some v := h
    simp [V.cells, denL, h', den_oneCell h']
  | agg cs =>
    simp only [V.den, Option.map_eq_some_iff] at h
    obtain ⟨vs, hvs, rfl⟩ := h
    simpa [V.cells, Value.cells] using hvs
  | tup _ => cases hf

def C.solid : C → Bool
  | .undef => false
  | _ => true
theorem C.solid_ok {ρ : Env} {j : Nat → Option Nat} {c : C} {v : Value} (h : c.den ρ j = some v) (hs : c.solid = true) : v.oneCell' = true := by
  cases c <;> simp only [C.den, Option.map_eq_some_iff] at h
  case ptr b o => obtain ⟨k, _, rfl⟩ := h; rfl
  case undef => cases hs
  all_goals cases h; rfl

/-- n cells of a box from a place on. -/
def rowOf (ld : Nat → Nat → Option C) (b : Nat) : Nat → Nat → Option (List C)
  | _, 0 => some []
  | o, n + 1 => match ld b o, rowOf ld b (o + 1) n with
    | some c, some cs => some (c :: cs)
    | _, _ => none
def rowRd (b : Nat) : Nat → Nat → List (Nat × Nat)
  | _, 0 => []
  | o, n + 1 => (b, o) :: rowRd b (o + 1) n
def rowWr (b : Nat) : Nat → List C → List (Nat × Nat × C)
  | _, [] => []
  | o, c :: cs => (b, o, c) :: rowWr b (o + 1) cs

/-! ### Equality of rows of cells -/
def eqCells : List C → List C → Option E
  | [], [] => some (.tt true)
  | .int k a :: l, .int k' b :: r => if kdSame k k' then (eqCells l r).map (mkAnd (mkEq a b)) else none
  | .bool a :: l, .bool b :: r => (eqCells l r).map (mkAnd (mkBeq a b))
  | _, _ => none
/-- Rows of whole numbers and truth values, of the same kinds. -/
def simVs : List Value → List Value → Prop
  | [], [] => True
  | .int k _ :: l, .int k' _ :: r => k = k' ∧ simVs l r
  | .bool _ :: l, .bool _ :: r => simVs l r
  | _, _ => False
def eqVs : List Value → List Value → Bool
  | .int _ a :: l, .int _ b :: r => (a == b) && eqVs l r
  | .bool a :: l, .bool b :: r => (a == b) && eqVs l r
  | _, _ => true
def kindsC : List C → List C → Bool
  | [], [] => true
  | .int k _ :: l, .int k' _ :: r => kdSame k k' && kindsC l r
  | .bool _ :: l, .bool _ :: r => kindsC l r
  | _, _ => false
def kindsV : List Value → List C → Prop
  | [], [] => True
  | .int k x :: l, .int k' _ :: r => k = k' ∧ inK k x = true ∧ kindsV l r
  | .bool _ :: l, .bool _ :: r => kindsV l r
  | _, _ => False
/-- All whole numbers of a result are in their kinds' ranges. -/
def C.rng (vk : List (Option IntKind)) : C → Bool
  | .int k e => e.rng vk k
  | _ => true
theorem kindsC_ok {ρ : Env} {j : Nat → Option Nat} {vk : List (Option IntKind)} (hv : Vk ρ vk) : ∀ {cs zs : List C} {vs : List Value}, kindsC cs zs = true → cs.all (C.rng vk) = true → denL ρ j cs = some vs → kindsV vs zs
  | [], [], vs, _, _, h => by cases h; trivial
  | .int k a :: l, .int k' b :: r, vs, hk, hr, h => by
    simp only [kindsC, Bool.and_eq_true] at hk
    simp only [List.all_cons, Bool.and_eq_true] at hr
    simp only [denL, C.den] at h
    cases hl : denL ρ j l with
    | none => rw [hl] at h; cases h
    | some us => rw [hl] at h; cases h; exact ⟨kdSame_eq hk.1, E.rng_ok hv a hr.1, kindsC_ok hv hk.2 hr.2 hl⟩
  | .bool a :: l, .bool b :: r, vs, hk, hr, h => by
    simp only [kindsC] at hk
    simp only [List.all_cons, Bool.and_eq_true] at hr
    simp only [denL, C.den] at h
    cases hl : denL ρ j l with
    | none => rw [hl] at h; cases h
    | some us => rw [hl] at h; cases h; exact kindsC_ok (cs := l) (zs := r) hv hk hr.2 hl
theorem kindsV_int {vs : List Value} {k : IntKind} {e : E} {r : List C} (h : kindsV vs (.int k e :: r)) : ∃ x l, vs = .int k x :: l ∧ inK k x = true ∧ kindsV l r := by
  match vs, h with
  | .int k' x :: l, h => exact ⟨x, l, by rw [h.1], by rw [← h.1]; exact h.2.1, h.2.2⟩
theorem kindsV_bool {vs : List Value} {e : E} {r : List C} (h : kindsV vs (.bool e :: r)) : ∃ x l, vs = .bool x :: l ∧ kindsV l r := by
  match vs, h with
  | .bool x :: l, h => exact ⟨x, l, rfl, h⟩
theorem kindsV_nil {vs : List Value} (h : kindsV vs []) : vs = [] := by
  cases vs with
  | nil => rfl
  | cons v l => cases v <;> exact h.elim

theorem eqCells_ok {ρ : Env} {j : Nat → Option Nat} : ∀ {cs ds : List C} {e : E}, eqCells cs ds = some e → ∃ vs us, denL ρ j cs = some vs ∧ denL ρ j ds = some us ∧ simVs vs us ∧ eqVs vs us = e.B ρ
  | [], [], e, h => by cases h; exact ⟨[], [], rfl, rfl, trivial, rfl⟩
  | .int k a :: l, .int k' b :: r, e, h => by
    simp only [eqCells] at h
    split at h
    · rename_i hk
      rw [Option.map_eq_some_iff] at h
      obtain ⟨e', he, rfl⟩ := h
      obtain ⟨vs, us, h1, h2, h3, h4⟩ := eqCells_ok (ρ := ρ) (j := j) he
      refine ⟨.int k (a.I ρ) :: vs, .int k' (b.I ρ) :: us, by simp [denL, C.den, h1], by simp [denL, C.den, h2], ⟨kdSame_eq hk, h3⟩, ?_⟩
      simp [eqVs, h4, mkAnd_B, mkEq_B]
    · cases h
  | .bool a :: l, .bool b :: r, e, h => by
    simp only [eqCells, Option.map_eq_some_iff] at h
    obtain ⟨e', he, rfl⟩ := h
    obtain ⟨vs, us, h1, h2, h3, h4⟩ := eqCells_ok (ρ := ρ) (j := j) he
    refine ⟨.bool (a.B ρ) :: vs, .bool (b.B ρ) :: us, by simp [denL, C.den, h1], by simp [denL, C.den, h2], h3, ?_⟩
    simp [eqVs, h4, mkAnd_B, mkBeq_B]

/-! ### Contracts: arguments and results -/
def encC (vk : List (Option IntKind)) : CK → C → E → Option E
  | .int k, .int k' e, t => if kdSame k k' && e.rng vk k then some (.cons e t) else none
  | .bool, .bool e, t => some (.consb e t)
  | .fn g, .fn g', t => if Nat.beq g g' then some t else none
  | .lit k z, .int k' (.lit z'), t => if kdSame k k' && zSame z z' then some t else none
  | _, _, _ => none
def encL (vk : List (Option IntKind)) : List CK → List C → E → Option E
  | [], [], t => some t
  | k :: ks, c :: cs, t => (encL vk ks cs t).bind (encC vk k c)
  | _, _, _ => none
def encV (vk : List (Option IntKind)) : Bool × List CK → V → E → Option E
  | (true, ks), .agg cs, t => encL vk ks cs t
  | (false, [k]), .one c, t => encC vk k c t
  | _, _, _ => none
def encA (vk : List (Option IntKind)) : List (Bool × List CK) → List V → Option E
  | [], [] => some .nil
  | s :: ss, v :: vs => (encA vk ss vs).bind (encV vk s v)
  | _, _ => none

def ckVal : CK → List Int → Option (Value × List Int)
  | .int k, x :: r => if inK k x then some (.int k x, r) else none
  | .bool, x :: r => some (.bool (x == 1), r)
  | .fn g, r => some (.func (.func g) #[] #[], r)
  | .lit k z, r => some (.int k z, r)
  | _, _ => none
def cksVal : List CK → List Int → Option (List Value × List Int)
  | [], r => some ([], r)
  | k :: ks, r => match ckVal k r with
    | some (v, r') => match cksVal ks r' with
      | some (vs, r'') => some (v :: vs, r'')
      | none => none
    | none => none
def shOne : Bool × List CK → List Int → Option (Value × List Int)
  | (true, ks), r => (cksVal ks r).map fun (vs, r') => (.agg vs.toArray, r')
  | (false, [k]), r => ckVal k r
  | (false, _), _ => none
def shVal : List (Bool × List CK) → List Int → Option (List Value)
  | [], [] => some []
  | s :: ss, r => match shOne s r with
    | some (v, r') => (shVal ss r').map (v :: ·)
    | none => none
  | _, _ => none

section
variable {ρ : Env} {j : Nat → Option Nat} {vk : List (Option IntKind)}
theorem encC_ok (hv : Vk ρ vk) {k : CK} {c : C} {t e : E} (h : encC vk k c t = some e) : ∃ v, c.den ρ j = some v ∧ ckVal k (e.L ρ) = some (v, t.L ρ) := by
  unfold encC at h
  split at h
  · split at h
    · rename_i hk
      cases h
      simp only [Bool.and_eq_true] at hk
      refine ⟨_, rfl, ?_⟩
      rw [kdSame_eq hk.1] at *
      simp only [E.L, ckVal, E.rng_ok hv _ hk.2, if_true]
    · cases h
  · cases h
    rename_i b
    refine ⟨_, rfl, ?_⟩
    simp only [E.L, ckVal]
    cases b.B ρ <;> simp
  · split at h
    · rename_i hg
      cases h
      refine ⟨_, rfl, ?_⟩
      rw [Nat.eq_of_beq_eq_true hg]
      rfl
    · cases h
  · split at h
    · rename_i hg
      cases h
      simp only [Bool.and_eq_true] at hg
      refine ⟨_, rfl, ?_⟩
      rw [kdSame_eq hg.1, zSame_eq hg.2]
      rfl
    · cases h
  · cases h
theorem encL_ok (hv : Vk ρ vk) : ∀ {ks : List CK} {cs : List C} {t e : E}, encL vk ks cs t = some e → ∃ vs, denL ρ j cs = some vs ∧ cksVal ks (e.L ρ) = some (vs, t.L ρ)
  | [], [], t, e, h => by cases h; exact ⟨[], rfl, rfl⟩
  | k :: ks, c :: cs, t, e, h => by
    simp only [encL, Option.bind_eq_some_iff] at h
    obtain ⟨e', h1, h2⟩ := h
    obtain ⟨vs, h3, h4⟩ := encL_ok hv h1
    obtain ⟨v, h5, h6⟩ := encC_ok (j := j) hv h2
    exact ⟨v :: vs, by simp [denL, h3, h5], by simp [cksVal, h6, h4]⟩
theorem encV_ok (hv : Vk ρ vk) {s : Bool × List CK} {x : V} {t e : E} (h : encV vk s x t = some e) : ∃ v, x.den ρ j = some v ∧ shOne s (e.L ρ) = some (v, t.L ρ) := by
  unfold encV at h
  split at h
  · obtain ⟨vs, h1, h2⟩ := encL_ok (j := j) hv h
    exact ⟨.agg vs.toArray, by simp only [V.den, h1, Option.map_some], by simp only [shOne, h2, Option.map_some]⟩
  · obtain ⟨v, h1, h2⟩ := encC_ok (j := j) hv h
    exact ⟨v, h1, h2⟩
  · cases h
theorem encA_ok (hv : Vk ρ vk) : ∀ {ss : List (Bool × List CK)} {xs : List V} {e : E}, encA vk ss xs = some e → ∀ us : List Value, (∀ (i : Nat) x u, xs[i]? = some x → us[i]? = some u → x.den ρ j = some u) → us.length = xs.length → shVal ss (e.L ρ) = some us
  | [], [], e, h, us, hu, hl => by
    cases h
    cases us with
    | nil => rfl
    | cons _ _ => cases hl
  | s :: ss, x :: xs, e, h, us, hu, hl => by
    simp only [encA, Option.bind_eq_some_iff] at h
    obtain ⟨e', h1, h2⟩ := h
    cases us with
    | nil => cases hl
    | cons u us =>
      have h3 := encA_ok hv h1 us (fun i x u hx hu' => hu (i + 1) x u (by simpa using hx) (by simpa using hu')) (by simpa using hl)
      obtain ⟨v, h5, h6⟩ := encV_ok (j := j) hv h2
      have h7 := hu 0 x u rfl rfl
      rw [h5] at h7
      cases h7
      simp [shVal, h6, h3]
end

def resCells (v0 : Nat) : Nat → List CK → List C
  | _, [] => []
  | n, .int k :: ks => .int k (.var (v0 + n)) :: resCells v0 (n + 1) ks
  | n, .bool :: ks => .bool (.bvar (v0 + n)) :: resCells v0 (n + 1) ks
  | n, .fn g :: ks => .fn g :: resCells v0 (n + 1) ks
  | n, .lit _ _ :: ks => .undef :: resCells v0 (n + 1) ks
def resParts (v0 : Nat) : Nat → List (Bool × List CK) → List (Bool × List C)
  | _, [] => []
  | n, (t, ks) :: l => (t, resCells v0 n ks) :: resParts v0 (n + ks.length) l
def resV (s : Sm) (v0 : Nat) : V :=
  if s.tup then .tup (resParts v0 0 s.res) else
  match resParts v0 0 s.res with
  | [(true, cs)] => .agg cs
  | [(false, [c])] => .one c
  | _ => .one .undef
def Sm.ks (s : Sm) : List CK := s.res.flatMap (·.2)

structure SmOk (P : Program) (sp : Spec) (s : Sm) : Prop where
  calls : ((∀ args w, (callFunc s.f args).run P w = .ok (.enter s.f args) w) ∧
      ∀ xs vals, shVal s.args xs = some vals → ∀ w, Calls P s.f vals.toArray w fun e w' => (∃ v, e = .returned v ∧ ∀ (ρ : Env) v0, eqs sp ρ s.key v0 xs 0 s.ks → (resV s v0).den ρ (fun _ => none) = some v) ∧ Ext w w') ∨
    ∀ xs vals, shVal s.args xs = some vals → ∀ w, ∃ v, (callFunc s.f vals.toArray).run P w = .ok (.value v) w ∧ ∀ (ρ : Env) v0, eqs sp ρ s.key v0 xs 0 s.ks → (resV s v0).den ρ (fun _ => none) = some v
  rng : ∀ xs vals, shVal s.args xs = some vals → ∀ (ρ : Env) v0, eqs sp ρ s.key v0 xs 0 s.ks → ∀ (n : Nat) k, s.ks[n]? = some (.int k) → inK k (ρ.i (v0 + n)) = true

structure TIok (P : Program) (t : Nat) (i : TI) : Prop where
  agg : ∀ w, (isAgg t).run P w = .ok i.agg w
  size : ∀ w, (sizeOf t).run P w = .ok i.size w
  zero : ∃ z, (∀ w, (zeroValue t).run P w = .ok z w) ∧ ∀ (ρ : Env) j, denL ρ j i.zero = some z.cells.toList
  fieldAt : ∀ f off ft, i.fields[f]? = some (off, ft) → ∀ w k o, (Instr.fieldAt t (.pointer (some ⟨k, o, none⟩)) f).run P w = .ok (.pointer (some ⟨k, o + off, none⟩)) w
  field : ∀ f off ft, i.fields[f]? = some (off, ft) → ∀ w cs, (Instr.field t (.agg cs) f).run P w = (part ft cs off).run P w
  arr : ∀ n e, i.arr = some (n, e) → P.underlying t = some (.array n e)
  str : i.agg = true → i.arr = none → ∃ fs, P.underlying t = some (.struct fs) ∧ fs.toList.map (fun f => (f.offset, f.type)) = i.fields
  ik : ∀ k, i.ik = some k → P.underlying t = some (.int k)
  und : ∃ d, P.underlying t = some d
  eq : i.eqok = true → ∀ vs us, kindsV vs i.zero → kindsV us i.zero → ∀ w, (Op.equal t (.agg vs.toArray) (.agg us.toArray)).run P w = .ok (eqVs vs us) w
  grd : i.eqok = true → P.eqGuardType P.depth t = false
  isb : i.isb = true → P.underlying t = some .bool

/-! ### The run of an operation -/
def findSm (vk : List (Option IntKind)) (f : Nat) (args : List V) : List Sm → Option (Sm × E)
  | [] => none
  | s :: l => if Nat.beq s.f f then (match encA vk s.args args with | some e => some (s, e) | none => findSm vk f args l) else findSm vk f args l
theorem findSm_ok {vk : List (Option IntKind)} {f : Nat} {args : List V} {s : Sm} {e : E} : ∀ {l : List Sm}, findSm vk f args l = some (s, e) → s ∈ l ∧ s.f = f ∧ encA vk s.args args = some e
  | x :: l, h => by
    simp only [findSm] at h
    split at h
    · rename_i hf
      split at h
      · rename_i e' he
        cases h
        exact ⟨List.mem_cons_self, Nat.eq_of_beq_eq_true hf, he⟩
      · have := findSm_ok h
        exact ⟨List.mem_cons_of_mem _ this.1, this.2⟩
    · have := findSm_ok h
      exact ⟨List.mem_cons_of_mem _ this.1, this.2⟩
def findLog (key : Nat) (e : E) : List (Nat × E × Nat) → Option Nat
  | [] => none
  | (m, x, v0) :: l => if Nat.beq m key && x.same e then some v0 else findLog key e l
theorem findLog_ok {key : Nat} {e : E} {v0 : Nat} : ∀ {l : List (Nat × E × Nat)}, findLog key e l = some v0 → (key, e, v0) ∈ l
  | (m, x, u) :: l, h => by
    simp only [findLog] at h
    split at h
    · rename_i hm
      simp only [Bool.and_eq_true] at hm
      cases h
      rw [Nat.eq_of_beq_eq_true hm.1, E.same_eq hm.2]
      exact List.mem_cons_self
    · exact List.mem_cons_of_mem _ (findLog_ok h)

def ckKind : CK → Option IntKind
  | .int k => some k
  | _ => none
def evL (ev : Operand → Option V) : List Operand → Option (List V)
  | [] => some []
  | x :: l => match ev x, evL ev l with
    | some v, some vs => some (v :: vs)
    | _, _ => none

def callK (cx : Cx) (g : Nat) (args : List V) (kw : Kw) (k : Eff → Kw → Tr) : Tr :=
  match findSm kw.vk g args cx.sm with
  | none => .stuck (100000 + g)
  | some (s, e) =>
    match findLog s.key e kw.log with
    | some v0 => k { val := resV s v0 } kw
    | none => .call s.key s.ks e kw.vk.length (k { val := resV s kw.vk.length } { kw with log := (s.key, e, kw.vk.length) :: kw.log, vk := kw.vk ++ s.ks.map ckKind })

def mmK (f : E → E → E) (k0 : IntKind) : E → List V → Option E
  | e, [] => some e
  | e, .one (.int k x) :: l => if kdSame k k0 then mmK f k0 (f e x) l else none
  | _, _ => none

def binK (cx : Cx) (op : BinOp) (xt : Nat) (x y : V) (kw : Kw) (k : Eff → Kw → Tr) : Tr :=
  match x, y with
  | .one (.int k1 a), .one (.int k2 b) =>
    match op with
    | .shl | .shr =>
      if k2.signed then decK (mkLt b (.lit 0)) (fun neg kw => if neg then .panic else k { val := .one (.int k1 (mkBin op k1 a b)) } kw) kw
      else if b.rng kw.vk k2 then k { val := .one (.int k1 (mkBin op k1 a b)) } kw else .stuck 11
    | _ =>
      if kdSame k1 k2 then
        match op with
        | .add | .sub | .mul | .and | .or | .xor | .andNot => k { val := .one (.int k1 (mkBin op k1 a b)) } kw
        | .quo | .rem => decK (mkEq b (.lit 0)) (fun z kw => if z then .panic else k { val := .one (.int k1 (mkBin op k1 a b)) } kw) kw
        | .eql => k { val := .one (.bool (mkEq a b)) } kw
        | .neq => k { val := .one (.bool (mkNot (mkEq a b))) } kw
        | .lss => k { val := .one (.bool (mkLt a b)) } kw
        | .leq => k { val := .one (.bool (mkNot (mkLt b a))) } kw
        | .gtr => k { val := .one (.bool (mkLt b a)) } kw
        | .geq => k { val := .one (.bool (mkNot (mkLt a b))) } kw
        | _ => .stuck 12
      else .stuck 13
  | .one (.bool a), .one (.bool b) =>
    match op with
    | .eql => match lookN xt cx.ty with
      | some i => if i.isb then k { val := .one (.bool (mkBeq a b)) } kw else .stuck 14
      | none => .stuck 14
    | .neq => match lookN xt cx.ty with
      | some i => if i.isb then k { val := .one (.bool (mkNot (mkBeq a b))) } kw else .stuck 14
      | none => .stuck 14
    | _ => .stuck 15
  | .agg cs, .agg ds =>
    match lookN xt cx.ty, eqCells cs ds with
    | some i, some e =>
      if i.eqok && ((kindsC cs i.zero && cs.all (C.rng kw.vk)) && (kindsC ds i.zero && ds.all (C.rng kw.vk))) then
        match op with
        | .eql => k { val := .one (.bool e) } kw
        | .neq => k { val := .one (.bool (mkNot e)) } kw
        | _ => .stuck 16
      else .stuck 17
    | _, _ => .stuck 18
  | _, _ => .stuck 19

/-- A number among those below n: the index's value by cases. -/
def pickK (e : E) (n : Nat) (k : Nat → Kw → Tr) : Nat → Kw → Tr
  | 0, _ => .panic
  | m + 1, kw => decK (mkEq e (.lit (n - (m + 1) : Nat))) (fun b kw => if b then k (n - (m + 1)) kw else pickK e n k m kw) kw

def partV (cx : Cx) (ft : Nat) (cs : List C) (off : Nat) : Option V :=
  match lookN ft cx.ty with
  | some i => if i.agg then (if off + i.size ≤ cs.length then some (.agg ((cs.drop off).take i.size)) else none) else (cs[off]?).map .one
  | none => none

def setRow : List C → Nat → List C → List C
  | cs, _, [] => cs
  | cs, off, v :: r => setRow (cs.set off v) (off + 1) r
def fillC (pl : Nat → Option (Nat × Nat)) : List C → List (Nat × V) → Option (List C)
  | cs, [] => some cs
  | cs, (i, v) :: l => match pl i with
    | some (off, size) => if v.flat && (Nat.beq v.cells.length size && decide (off + size ≤ cs.length)) then fillC pl (setRow cs off v.cells) l else none
    | none => none
def evP (ev : Operand → Option V) : List (Nat × Operand) → Option (List (Nat × V))
  | [] => some []
  | (i, x) :: l => match ev x, evP ev l with
    | some v, some vs => some ((i, v) :: vs)
    | _, _ => none
def placesOf (ty : List (Nat × TI)) : List (Nat × Nat) → Option (List (Nat × Nat))
  | [] => some []
  | (off, ft) :: l => match lookN ft ty, placesOf ty l with
    | some i, some r => some ((off, i.size) :: r)
    | _, _ => none
def buildV (cx : Cx) (t : Nat) (parts : List (Nat × V)) : Option V :=
  match lookN t cx.ty with
  | some i => match i.arr with
    | some (_, et) => match lookN et cx.ty with
      | some ie => (fillC (fun m => some (m * ie.size, ie.size)) i.zero parts).map .agg
      | none => none
    | none => if i.agg then (match placesOf cx.ty i.fields with
      | some pl => (fillC (fun m => pl[m]?) i.zero parts).map .agg
      | none => none) else none
  | none => none

def opK (cx : Cx) (ev : Operand → Option V) (ld : Nat → Nat → Option C) (nid : Nat) (op : Op) (kw : Kw) (k : Eff → Kw → Tr) : Tr :=
  match op with
  | .move x | .assign x => match ev x with
    | some v => k { val := v } kw
    | none => .stuck 1
  | .alloc t => match lookN t cx.ty with
    | some i => k { val := .one (.ptr nid 0), al := some (i.zero, t) } kw
    | none => .stuck 2
  | .box t x => match ev x with
    | some v => if v.flat then k { val := .one (.ptr nid 0), al := some (v.cells, t) } kw else .stuck 3
    | none => .stuck 3
  | .load t x => match ev x, lookN t cx.ty with
    | some (.one (.ptr b o)), some i =>
      if i.agg then (match rowOf ld b o i.size with
        | some cs => k { val := .agg cs, rd := rowRd b o i.size } kw
        | none => .stuck 4)
      else (match ld b o with
        | some c => k { val := .one c, rd := [(b, o)] } kw
        | none => .stuck 4)
    | _, _ => .stuck 5
  | .store t x y => match ev x, ev y, lookN t cx.ty with
    | some (.one (.ptr b o)), some v, some i =>
      if v.flat && (Nat.beq v.cells.length i.size && v.cells.all C.solid) then k { val := .one .undef, wr := rowWr b o v.cells } kw else .stuck 6
    | _, _, _ => .stuck 7
  | .nilCheck x => match ev x with
    | some (.one (.ptr b o)) => k { val := .one (.ptr b o) } kw
    | some (.one (.fn g)) => k { val := .one (.fn g) } kw
    | some (.one .nilp) => .panic
    | _ => .stuck 8
  | .binOp op xt x y _ => match ev x, ev y with
    | some v, some u => binK cx op xt v u kw k
    | _, _ => .stuck 9
  | .unOp op _ x => match op, ev x with
    | .not, some (.one (.bool e)) => k { val := .one (.bool (mkNot e)) } kw
    | .neg, some (.one (.int kd e)) => k { val := .one (.int kd (mkBin .sub kd (.lit 0) e)) } kw
    | .xor, some (.one (.int kd e)) => k { val := .one (.int kd (mkBin .xor kd (.lit (if kd.signed then -1 else kd.max)) e)) } kw
    | _, _ => .stuck 10
  | .convert s d x => match ev x, lookN d cx.ty, lookN s cx.ty with
    | some (.one (.int _ e)), some i, some _ => match i.ik with
      | some kd => k { val := .one (.int kd (if e.rng kw.vk kd then e else mkConv kd e)) } kw
      | none => .stuck 20
    | _, _, _ => .stuck 21
  | .fieldAddr s x f => match ev x, lookN s cx.ty with
    | some (.one (.ptr b o)), some i => match i.fields[f]? with
      | some (off, _) => k { val := .one (.ptr b (o + off)) } kw
      | none => .stuck 22
    | _, _ => .stuck 23
  | .field s x f => match ev x, lookN s cx.ty with
    | some (.agg cs), some i => match i.fields[f]? with
      | some (off, ft) => match partV cx ft cs off with
        | some v => k { val := v } kw
        | none => .stuck 24
      | none => .stuck 25
    | _, _ => .stuck 26
  | .indexAddr t x y => match ev x, ev y, lookN t cx.ty with
    | some (.one (.ptr b o)), some (.one (.int _ e)), some i => match i.arr with
      | some (n, et) => match lookN et cx.ty with
        | some ie => pickK e n (fun m kw => k { val := .one (.ptr b (o + m * ie.size)) } kw) n kw
        | none => .stuck 27
      | none => .stuck 28
    | _, _, _ => .stuck 29
  | .index t x y => match ev x, ev y, lookN t cx.ty with
    | some (.agg cs), some (.one (.int _ e)), some i => match i.arr with
      | some (n, et) => match lookN et cx.ty with
        | some ie => pickK e n (fun m kw => match partV cx et cs (m * ie.size) with
          | some v => k { val := v } kw
          | none => .stuck 30) n kw
        | none => .stuck 31
      | none => .stuck 32
    | _, _, _ => .stuck 33
  | .pick c x y => match ev c, ev x, ev y with
    | some (.one (.bool e)), some u, some v => decK e (fun b kw => k { val := if b then u else v } kw) kw
    | _, _, _ => .stuck 42
  | .build t ps => match evP ev ps.toList with
    | some parts => match buildV cx t parts with
      | some v => k { val := v } kw
      | none => .stuck 43
    | none => .stuck 44
  | .extract x n => match ev x with
    | some (.tup vs) => match vs[n]? with
      | some (true, cs) => k { val := .agg cs } kw
      | some (false, [c]) => k { val := .one c } kw
      | _ => .stuck 34
    | _ => .stuck 35
  | .call c => match c.callee with
    | .value f => match ev f, evL ev c.args.toList with
      | some (.one (.fn g)), some args => callK cx g args kw k
      | _, _ => .stuck 36
    | .builtin .min => match evL ev c.args.toList with
      | some (.one (.int k0 e) :: l) => match mmK mkMin k0 e l with
        | some e' => k { val := .one (.int k0 e') } kw
        | none => .stuck 37
      | _ => .stuck 38
    | .builtin .max => match evL ev c.args.toList with
      | some (.one (.int k0 e) :: l) => match mmK mkMax k0 e l with
        | some e' => k { val := .one (.int k0 e') } kw
        | none => .stuck 39
      | _ => .stuck 40
    | _ => .stuck 41
  | _ => .stuck 50
end Go.Proofs.Ytcngfmhhaleoaaa
