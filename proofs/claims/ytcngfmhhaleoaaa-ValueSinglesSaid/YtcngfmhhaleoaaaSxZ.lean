/- Texts SxA, SxB, SxC, SxD, SxE, SxF, SxG, SxH, SxI, SxJ, SxK, SxL, SxM in one. -/
import Derived.Test.YtcngfmhhaleoaaaLib
import Derived.OpenShut
import Derived.Laws.EntriesVeiled
import Derived.Calls
import Derived.Laws.OwnMore
import Derived.Orders
import Derived.LoopN
import Derived.DeepKeys
/- Expressions over whole numbers and truth values, cells, values and states of a symbolic run, and what they stand for. Nothing of the program is in here. -/
set_option linter.unusedVariables false
set_option linter.unusedSimpArgs false
namespace Go.Proofs.Ytcngfmhhaleoaaa
open Go.RowKit

/-- Expressions: numbers, truth values and rows of numbers in one type. -/
inductive E where
  | lit (z : Int)
  | var (n : Nat)
  | bin (op : BinOp) (k : IntKind) (a b : E)
  | conv (k : IntKind) (a : E)
  | mn (a b : E)
  | mx (a b : E)
  | nil
  | cons (a t : E)
  | consb (b t : E)
  | tt (b : Bool)
  | bvar (n : Nat)
  | lt (a b : E)
  | eq (a b : E)
  | not (a : E)
  | and (a b : E)
  | beq (a b : E)
  deriving Repr, Inhabited

def opSame : BinOp → BinOp → Bool
  | .add, .add | .sub, .sub | .mul, .mul | .quo, .quo | .rem, .rem | .and, .and | .or, .or | .xor, .xor | .shl, .shl | .shr, .shr | .andNot, .andNot => true
  | _, _ => false
def kdSame : IntKind → IntKind → Bool
  | .i8, .i8 | .i16, .i16 | .i32, .i32 | .i64, .i64 | .u8, .u8 | .u16, .u16 | .u32, .u32 | .u64, .u64 => true
  | _, _ => false
theorem opSame_eq {a b : BinOp} (h : opSame a b = true) : a = b := by cases a <;> cases b <;> first | rfl | cases h
theorem kdSame_eq {a b : IntKind} (h : kdSame a b = true) : a = b := by cases a <;> cases b <;> first | rfl | cases h
def zSame : Int → Int → Bool
  | .ofNat a, .ofNat b => Nat.beq a b
  | .negSucc a, .negSucc b => Nat.beq a b
  | _, _ => false
theorem zSame_eq {a b : Int} (h : zSame a b = true) : a = b := by
  cases a <;> cases b <;> simp [zSame] at h <;> simp [h]
theorem zSame_iff {a b : Int} : zSame a b = (a == b) := by
  cases h : zSame a b with
  | true => rw [zSame_eq h]; simp
  | false =>
    symm
    rw [beq_eq_false_iff_ne]
    rintro rfl
    cases a <;> simp [zSame] at h

def E.same : E → E → Bool
  | .lit a, x => match x with | .lit b => zSame a b | _ => false
  | .var a, x => match x with | .var b => Nat.beq a b | _ => false
  | .bin o k a b, x => match x with | .bin o' k' a' b' => opSame o o' && (kdSame k k' && (E.same a a' && E.same b b')) | _ => false
  | .conv k a, x => match x with | .conv k' a' => kdSame k k' && E.same a a' | _ => false
  | .mn a b, x => match x with | .mn a' b' => E.same a a' && E.same b b' | _ => false
  | .mx a b, x => match x with | .mx a' b' => E.same a a' && E.same b b' | _ => false
  | .nil, x => match x with | .nil => true | _ => false
  | .cons a b, x => match x with | .cons a' b' => E.same a a' && E.same b b' | _ => false
  | .consb a b, x => match x with | .consb a' b' => E.same a a' && E.same b b' | _ => false
  | .tt a, x => match x with | .tt b => a == b | _ => false
  | .bvar a, x => match x with | .bvar b => Nat.beq a b | _ => false
  | .lt a b, x => match x with | .lt a' b' => E.same a a' && E.same b b' | _ => false
  | .eq a b, x => match x with | .eq a' b' => E.same a a' && E.same b b' | _ => false
  | .not a, x => match x with | .not a' => E.same a a' | _ => false
  | .and a b, x => match x with | .and a' b' => E.same a a' && E.same b b' | _ => false
  | .beq a b, x => match x with | .beq a' b' => E.same a a' && E.same b b' | _ => false

theorem E.same_eq {a b : E} (h : E.same a b = true) : a = b := by
  induction a generalizing b <;> cases b <;> simp only [E.same, Bool.and_eq_true, Bool.false_eq_true, Nat.beq_eq_true_eq, beq_iff_eq] at h
  case lit.lit => rw [zSame_eq h]
  case var.var => rw [Nat.eq_of_beq_eq_true h]
  case bin.bin ih1 ih2 _ _ _ _ => obtain ⟨h1, h2, h3, h4⟩ := h; rw [opSame_eq h1, kdSame_eq h2, ih1 h3, ih2 h4]
  case conv.conv ih _ _ => rw [kdSame_eq h.1, ih h.2]
  case mn.mn ih1 ih2 _ _ => rw [ih1 h.1, ih2 h.2]
  case mx.mx ih1 ih2 _ _ => rw [ih1 h.1, ih2 h.2]
  case nil.nil => rfl
  case cons.cons ih1 ih2 _ _ => rw [ih1 h.1, ih2 h.2]
  case consb.consb ih1 ih2 _ _ => rw [ih1 h.1, ih2 h.2]
  case tt.tt => rw [h]
  case bvar.bvar => rw [Nat.eq_of_beq_eq_true h]
  case lt.lt ih1 ih2 _ _ => rw [ih1 h.1, ih2 h.2]
  case eq.eq ih1 ih2 _ _ => rw [ih1 h.1, ih2 h.2]
  case not.not ih _ => rw [ih h]
  case and.and ih1 ih2 _ _ => rw [ih1 h.1, ih2 h.2]
  case beq.beq ih1 ih2 _ _ => rw [ih1 h.1, ih2 h.2]

structure Env where
  i : Nat → Int
  b : Nat → Bool

/-- What an operation on two numbers of one kind comes to, as the model has it. -/
def opI (op : BinOp) (k : IntKind) (a b : Int) : Int :=
  match op with
  | .add => k.wrap (a + b)
  | .sub => k.wrap (a - b)
  | .mul => k.wrap (a * b)
  | .quo => k.wrap (a.tdiv b)
  | .rem => a.tmod b
  | .and | .or | .xor | .andNot => bits op k a b
  | .shl => k.wrap (a * 2 ^ min b.toNat k.bits)
  | .shr => a.fdiv (2 ^ min b.toNat k.bits)
  | _ => 0

mutual
def E.I (ρ : Env) : E → Int
  | .lit z => z
  | .var n => ρ.i n
  | .bin op k a b => opI op k (a.I ρ) (b.I ρ)
  | .conv k a => k.wrap (a.I ρ)
  | .mn a b => min (a.I ρ) (b.I ρ)
  | .mx a b => max (a.I ρ) (b.I ρ)
  | _ => 0
  termination_by structural x => x
def E.B (ρ : Env) : E → Bool
  | .tt b => b
  | .bvar n => ρ.b n
  | .lt a b => decide (a.I ρ < b.I ρ)
  | .eq a b => a.I ρ == b.I ρ
  | .not a => !a.B ρ
  | .and a b => a.B ρ && b.B ρ
  | .beq a b => a.B ρ == b.B ρ
  | _ => false
  termination_by structural x => x
def E.L (ρ : Env) : E → List Int
  | .cons a t => a.I ρ :: t.L ρ
  | .consb b t => (if b.B ρ then 1 else 0) :: t.L ρ
  | _ => []
  termination_by structural x => x
end

/-- One cell of memory, or one temporary of one cell. -/
inductive C where
  | int (k : IntKind) (e : E)
  | bool (e : E)
  | ptr (b o : Nat)
  | fn (f : Nat)
  | nilp
  | undef
  deriving Repr, Inhabited

/-- A temporary's value; parts of a tuple are rows of cells (true) or one cell (false). -/
inductive V where
  | one (c : C)
  | agg (cs : List C)
  | tup (vs : List (Bool × List C))
  deriving Repr, Inhabited

def C.den (ρ : Env) (j : Nat → Option Nat) : C → Option Value
  | .int k e => some (.int k (e.I ρ))
  | .bool e => some (.bool (e.B ρ))
  | .ptr b o => (j b).map fun k => .pointer (some ⟨k, o, none⟩)
  | .fn f => some (.func (.func f) #[] #[])
  | .nilp => some (.pointer none)
  | .undef => some Go.undef

def denL (ρ : Env) (j : Nat → Option Nat) : List C → Option (List Value)
  | [] => some []
  | c :: cs => match c.den ρ j, denL ρ j cs with
    | some v, some vs => some (v :: vs)
    | _, _ => none

def den0 (ρ : Env) (j : Nat → Option Nat) : Bool × List C → Option Value
  | (true, cs) => (denL ρ j cs).map fun vs => .agg vs.toArray
  | (false, [c]) => c.den ρ j
  | (false, _) => none

def den0L (ρ : Env) (j : Nat → Option Nat) : List (Bool × List C) → Option (List Value)
  | [] => some []
  | c :: cs => match den0 ρ j c, den0L ρ j cs with
    | some v, some vs => some (v :: vs)
    | _, _ => none

def V.den (ρ : Env) (j : Nat → Option Nat) : V → Option Value
  | .one c => c.den ρ j
  | .agg cs => (denL ρ j cs).map fun vs => .agg vs.toArray
  | .tup vs => (den0L ρ j vs).map fun vs => .tuple vs.toArray

/-- More blocks are known. -/
def Sub (j j' : Nat → Option Nat) : Prop := ∀ b k, j b = some k → j' b = some k
theorem Sub.refl (j : Nat → Option Nat) : Sub j j := fun _ _ h => h
theorem Sub.trans {j j' j'' : Nat → Option Nat} (h : Sub j j') (h' : Sub j' j'') : Sub j j'' := fun b k e => h' b k (h b k e)

theorem C.den_sub {ρ : Env} {j j' : Nat → Option Nat} (h : Sub j j') {c : C} {v : Value} (hd : c.den ρ j = some v) : c.den ρ j' = some v := by
  cases c with
  | ptr b o =>
    simp only [C.den, Option.map_eq_some_iff] at hd ⊢
    obtain ⟨k, hk, rfl⟩ := hd
    exact ⟨k, h b k hk, rfl⟩
  | _ => exact hd

theorem denL_sub {ρ : Env} {j j' : Nat → Option Nat} (h : Sub j j') : ∀ {cs : List C} {vs : List Value}, denL ρ j cs = some vs → denL ρ j' cs = some vs
  | [], _, hd => hd
  | c :: cs, vs, hd => by
    simp only [denL] at hd ⊢
    cases hc : c.den ρ j with
    | none => rw [hc] at hd; cases hd
    | some v =>
      cases hl : denL ρ j cs with
      | none => rw [hc, hl] at hd; cases hd
      | some l =>
        rw [hc, hl] at hd
        rw [C.den_sub h hc, denL_sub h hl]
        exact hd

theorem den0_sub {ρ : Env} {j j' : Nat → Option Nat} (h : Sub j j') {p : Bool × List C} {v : Value} (hd : den0 ρ j p = some v) : den0 ρ j' p = some v := by
  obtain ⟨t, cs⟩ := p
  cases t with
  | true =>
    simp only [den0, Option.map_eq_some_iff] at hd ⊢
    obtain ⟨l, hl, rfl⟩ := hd
    exact ⟨l, denL_sub h hl, rfl⟩
  | false =>
    match cs, hd with
    | [c], hd => exact C.den_sub h hd

theorem den0L_sub {ρ : Env} {j j' : Nat → Option Nat} (h : Sub j j') : ∀ {cs : List (Bool × List C)} {vs : List Value}, den0L ρ j cs = some vs → den0L ρ j' cs = some vs
  | [], _, hd => hd
  | c :: cs, vs, hd => by
    simp only [den0L] at hd ⊢
    cases hc : den0 ρ j c with
    | none => rw [hc] at hd; cases hd
    | some v =>
      cases hl : den0L ρ j cs with
      | none => rw [hc, hl] at hd; cases hd
      | some l =>
        rw [hc, hl] at hd
        rw [den0_sub h hc, den0L_sub h hl]
        exact hd

theorem V.den_sub {ρ : Env} {j j' : Nat → Option Nat} (h : Sub j j') {x : V} {v : Value} (hd : x.den ρ j = some v) : x.den ρ j' = some v := by
  cases x with
  | one c => exact C.den_sub h hd
  | agg cs =>
    simp only [V.den, Option.map_eq_some_iff] at hd ⊢
    obtain ⟨l, hl, rfl⟩ := hd
    exact ⟨l, denL_sub h hl, rfl⟩
  | tup vs =>
    simp only [V.den, Option.map_eq_some_iff] at hd ⊢
    obtain ⟨l, hl, rfl⟩ := hd
    exact ⟨l, den0L_sub h hl, rfl⟩

theorem denL_length {ρ : Env} {j : Nat → Option Nat} : ∀ {cs : List C} {vs : List Value}, denL ρ j cs = some vs → vs.length = cs.length
  | [], vs, h => by cases h; rfl
  | c :: cs, vs, h => by
    simp only [denL] at h
    cases hc : c.den ρ j with
    | none => rw [hc] at h; cases h
    | some v =>
      cases hl : denL ρ j cs with
      | none => rw [hc, hl] at h; cases h
      | some l => rw [hc, hl] at h; cases h; simp [denL_length hl]

theorem denL_get {ρ : Env} {j : Nat → Option Nat} : ∀ {cs : List C} {vs : List Value}, denL ρ j cs = some vs → ∀ (i : Nat) c, cs[i]? = some c → ∃ v, vs[i]? = some v ∧ c.den ρ j = some v
  | [], vs, h, i, c, hc => by simp at hc
  | c :: cs, vs, h, i, c', hc' => by
    simp only [denL] at h
    cases hc : c.den ρ j with
    | none => rw [hc] at h; cases h
    | some v =>
      cases hl : denL ρ j cs with
      | none => rw [hc, hl] at h; cases h
      | some l =>
        rw [hc, hl] at h; cases h
        cases i with
        | zero => simp at hc'; subst hc'; exact ⟨v, rfl, hc⟩
        | succ i => exact denL_get hl i c' (by simpa using hc')

theorem denL_set {ρ : Env} {j : Nat → Option Nat} : ∀ {cs : List C} {vs : List Value}, denL ρ j cs = some vs → ∀ (i : Nat) (c : C) (v : Value), c.den ρ j = some v → denL ρ j (cs.set i c) = some (vs.set i v)
  | [], vs, h, i, c, v, hv => by cases h; rfl
  | c :: cs, vs, h, i, c', v', hv' => by
    simp only [denL] at h
    cases hc : c.den ρ j with
    | none => rw [hc] at h; cases h
    | some v =>
      cases hl : denL ρ j cs with
      | none => rw [hc, hl] at h; cases h
      | some l =>
        rw [hc, hl] at h; cases h
        cases i with
        | zero => simp only [List.set_cons_zero, denL, hv', hl]
        | succ i => simp only [List.set_cons_succ, denL, hc, denL_set hl i c' v' hv']

theorem denL_append {ρ : Env} {j : Nat → Option Nat} : ∀ {cs ds : List C} {vs us : List Value}, denL ρ j cs = some vs → denL ρ j ds = some us → denL ρ j (cs ++ ds) = some (vs ++ us)
  | [], ds, vs, us, h, h' => by cases h; exact h'
  | c :: cs, ds, vs, us, h, h' => by
    simp only [denL] at h
    cases hc : c.den ρ j with
    | none => rw [hc] at h; cases h
    | some v =>
      cases hl : denL ρ j cs with
      | none => rw [hc, hl] at h; cases h
      | some l =>
        rw [hc, hl] at h; cases h
        simp only [List.cons_append, denL, hc, denL_append hl h']

theorem denL_take {ρ : Env} {j : Nat → Option Nat} : ∀ {cs : List C} {vs : List Value}, denL ρ j cs = some vs → ∀ (i : Nat), denL ρ j (cs.take i) = some (vs.take i)
  | [], vs, h, i => by cases h; simp [denL]
  | c :: cs, vs, h, i => by
    simp only [denL] at h
    cases hc : c.den ρ j with
    | none => rw [hc] at h; cases h
    | some v =>
      cases hl : denL ρ j cs with
      | none => rw [hc, hl] at h; cases h
      | some l =>
        rw [hc, hl] at h; cases h
        cases i with
        | zero => rfl
        | succ i => simp only [List.take_succ_cons, denL, hc, denL_take hl i]

theorem denL_drop {ρ : Env} {j : Nat → Option Nat} : ∀ {cs : List C} {vs : List Value}, denL ρ j cs = some vs → ∀ (i : Nat), denL ρ j (cs.drop i) = some (vs.drop i)
  | [], vs, h, i => by cases h; simp [denL]
  | c :: cs, vs, h, i => by
    have h0 := h
    simp only [denL] at h
    cases hc : c.den ρ j with
    | none => rw [hc] at h; cases h
    | some v =>
      cases hl : denL ρ j cs with
      | none => rw [hc, hl] at h; cases h
      | some l =>
        rw [hc, hl] at h; cases h
        cases i with
        | zero => exact h0
        | succ i => simp only [List.drop_succ_cons]; exact denL_drop hl i

theorem den0L_get {ρ : Env} {j : Nat → Option Nat} : ∀ {cs : List (Bool × List C)} {vs : List Value}, den0L ρ j cs = some vs → ∀ (i : Nat) c, cs[i]? = some c → ∃ v, vs[i]? = some v ∧ den0 ρ j c = some v
  | [], vs, h, i, c, hc => by simp at hc
  | c :: cs, vs, h, i, c', hc' => by
    simp only [den0L] at h
    cases hc : den0 ρ j c with
    | none => rw [hc] at h; cases h
    | some v =>
      cases hl : den0L ρ j cs with
      | none => rw [hc, hl] at h; cases h
      | some l =>
        rw [hc, hl] at h; cases h
        cases i with
        | zero => simp at hc'; subst hc'; exact ⟨v, rfl, hc⟩
        | succ i => exact den0L_get hl i c' (by simpa using hc')
end Go.Proofs.Ytcngfmhhaleoaaa

/- A symbolic run of one operation: smart expressions, decisions, what an operation does; and that the model's operation does so. Nothing of the program is in here. -/
set_option linter.unusedVariables false
set_option linter.unusedSimpArgs false
namespace Go.Proofs.Ytcngfmhhaleoaaa
open Go.RowKit

/-- A cell's kind in a contract's shape. -/
inductive CK where
  | int (k : IntKind)
  | bool
  | fn (g : Nat)
  | lit (k : IntKind) (z : Int)
  deriving Repr, Inhabited

/-- The tree of a run: leaves with a result, branches on conditions, calls that bring new variables. -/
inductive Tr where
  | leaf (v : V)
  | panic
  | stuck (n : Nat)
  | br (e : E) (t f : Tr)
  | call (key : Nat) (ks : List CK) (args : E) (v0 : Nat) (t : Tr)
  deriving Repr, Inhabited

/-- What the called functions come to: number of the contract, place in the result, the arguments' numbers. -/
structure Spec where
  I : Nat → Nat → List Int → Int
  B : Nat → Nat → List Int → Bool

def eqs (sp : Spec) (ρ : Env) (key v0 : Nat) (xs : List Int) : Nat → List CK → Prop
  | _, [] => True
  | n, .int _ :: ks => ρ.i (v0 + n) = sp.I key n xs ∧ eqs sp ρ key v0 xs (n + 1) ks
  | n, .bool :: ks => ρ.b (v0 + n) = sp.B key n xs ∧ eqs sp ρ key v0 xs (n + 1) ks
  | n, .fn _ :: ks => eqs sp ρ key v0 xs (n + 1) ks
  | n, .lit _ _ :: ks => eqs sp ρ key v0 xs (n + 1) ks

def Tr.holds (sp : Spec) (ρ : Env) (G : V → Prop) : Tr → Prop
  | .leaf v => G v
  | .panic => False
  | .stuck _ => False
  | .br e t f => (e.B ρ = true → t.holds sp ρ G) ∧ (e.B ρ = false → f.holds sp ρ G)
  | .call key ks args v0 t => eqs sp ρ key v0 (args.L ρ) 0 ks ∧ t.holds sp ρ G

/-- A contract's shape. -/
structure Sm where
  f : Nat
  key : Nat
  args : List (Bool × List CK)
  res : List (Bool × List CK)
  tup : Bool
  deriving Repr, Inhabited

structure TI where
  agg : Bool
  size : Nat
  zero : List C
  fields : List (Nat × Nat)
  arr : Option (Nat × Nat)
  ik : Option IntKind
  eqok : Bool
  isb : Bool
  deriving Repr, Inhabited

/-- What is known on a run's way. -/
structure Kw where
  pc : List (E × Bool)
  log : List (Nat × E × Nat)
  vk : List (Option IntKind)
  deriving Repr, Inhabited

structure Cx where
  ty : List (Nat × TI)
  sm : List Sm
  deriving Repr, Inhabited

def lookN {α : Type} (n : Nat) : List (Nat × α) → Option α
  | [] => none
  | (m, a) :: l => if Nat.beq m n then some a else lookN n l
theorem lookN_mem {α : Type} {n : Nat} {a : α} : ∀ {l : List (Nat × α)}, lookN n l = some a → (n, a) ∈ l
  | (m, b) :: l, h => by
    simp only [lookN] at h
    split at h
    · rename_i hm
      rw [Nat.eq_of_beq_eq_true hm]
      cases h
      exact List.mem_cons_self
    · exact List.mem_cons_of_mem _ (lookN_mem h)

/-! ### Smart expressions -/
def mkBin (op : BinOp) (k : IntKind) (a b : E) : E :=
  match a, b with
  | .lit x, .lit y => .lit (opI op k x y)
  | a, b => .bin op k a b
theorem mkBin_I (ρ : Env) (op : BinOp) (k : IntKind) (a b : E) : (mkBin op k a b).I ρ = opI op k (a.I ρ) (b.I ρ) := by
  unfold mkBin; split <;> rfl
def mkConv (k : IntKind) (a : E) : E :=
  match a with
  | .lit x => .lit (k.wrap x)
  | a => .conv k a
theorem mkConv_I (ρ : Env) (k : IntKind) (a : E) : (mkConv k a).I ρ = k.wrap (a.I ρ) := by
  unfold mkConv; split <;> rfl
def mkLt (a b : E) : E :=
  match a, b with
  | .lit x, .lit y => .tt (decide (x < y))
  | a, b => if a.same b then .tt false else .lt a b
theorem mkLt_B (ρ : Env) (a b : E) : (mkLt a b).B ρ = decide (a.I ρ < b.I ρ) := by
  unfold mkLt
  split
  · rfl
  · split
    · rename_i h
      rw [E.same_eq h]
      simp [E.B]
    · rfl
def mkEq (a b : E) : E :=
  match a, b with
  | .lit x, .lit y => .tt (zSame x y)
  | a, b => if a.same b then .tt true else .eq a b
theorem mkEq_B (ρ : Env) (a b : E) : (mkEq a b).B ρ = (a.I ρ == b.I ρ) := by
  unfold mkEq
  split
  · simp [E.B, E.I, zSame_iff]
  · split
    · rename_i h
      rw [E.same_eq h]
      simp [E.B]
    · rfl
def mkNot (a : E) : E :=
  match a with
  | .tt b => .tt (!b)
  | .not a => a
  | a => .not a
theorem mkNot_B (ρ : Env) (a : E) : (mkNot a).B ρ = !a.B ρ := by
  unfold mkNot; split <;> simp [E.B]
def mkAnd (a b : E) : E :=
  match a with
  | .tt true => b
  | .tt false => .tt false
  | a => .and a b
theorem mkAnd_B (ρ : Env) (a b : E) : (mkAnd a b).B ρ = (a.B ρ && b.B ρ) := by
  unfold mkAnd; split <;> simp [E.B]
def mkBeq (a b : E) : E :=
  match a, b with
  | .tt true, b => b
  | a, .tt true => a
  | .tt false, b => mkNot b
  | a, .tt false => mkNot a
  | a, b => if a.same b then .tt true else .beq a b
theorem mkBeq_B (ρ : Env) (a b : E) : (mkBeq a b).B ρ = (a.B ρ == b.B ρ) := by
  unfold mkBeq
  split
  · simp [E.B]
  · simp [E.B]
  · rw [mkNot_B]; simp only [E.B]; cases b.B ρ <;> rfl
  · rw [mkNot_B]; simp only [E.B]; cases a.B ρ <;> rfl
  · split
    · rename_i h
      rw [E.same_eq h]
      simp [E.B]
    · rfl
def mkMin (a b : E) : E :=
  match a, b with
  | .lit x, .lit y => .lit (min x y)
  | a, b => if a.same b then a else .mn a b
theorem mkMin_I (ρ : Env) (a b : E) : (mkMin a b).I ρ = min (a.I ρ) (b.I ρ) := by
  unfold mkMin
  split
  · rfl
  · split
    · rename_i h; rw [E.same_eq h]; omega
    · rfl
def mkMax (a b : E) : E :=
  match a, b with
  | .lit x, .lit y => .lit (max x y)
  | a, b => if a.same b then a else .mx a b
theorem mkMax_I (ρ : Env) (a b : E) : (mkMax a b).I ρ = max (a.I ρ) (b.I ρ) := by
  unfold mkMax
  split
  · rfl
  · split
    · rename_i h; rw [E.same_eq h]; omega
    · rfl

/-! ### Ranges -/
def inK (k : IntKind) (z : Int) : Bool := decide (k.min ≤ z) && decide (z ≤ k.max)
theorem inK_wf {k : IntKind} {z : Int} : (Lit.int k z).wf = inK k z := rfl
theorem inK_wrap (k : IntKind) (z : Int) : inK k (k.wrap z) = true := wf_wrap k z
theorem inK_bits (op : BinOp) (k : IntKind) (x y : Int) : inK k (bits op k x y) = true := wf_bits op k x y
theorem inK_iff {k : IntKind} {z : Int} : inK k z = true ↔ k.min ≤ z ∧ z ≤ k.max := by simp [inK]
theorem kmin_le (k : IntKind) : k.min ≤ 0 := by cases k <;> decide
theorem kmax_ge (k : IntKind) : 0 ≤ k.max := by cases k <;> decide

def E.rng (vk : List (Option IntKind)) (k : IntKind) : E → Bool
  | .lit z => inK k z
  | .var n => match vk[n]? with | some (some k') => kdSame k' k | _ => false
  | .bin op k' a _ => kdSame k' k && (match op with | .add | .sub | .mul | .quo | .shl | .and | .or | .xor | .andNot => true | .rem | .shr => a.rng vk k | _ => false)
  | .conv k' _ => kdSame k' k
  | .mn a b => a.rng vk k && b.rng vk k
  | .mx a b => a.rng vk k && b.rng vk k
  | _ => false

def Vk (ρ : Env) (vk : List (Option IntKind)) : Prop := ∀ n k, vk[n]? = some (some k) → inK k (ρ.i n) = true

theorem tmod_le (n : Nat) (b : Int) : 0 ≤ (n : Int).tmod b ∧ (n : Int).tmod b ≤ n := by
  have h2 : 0 ≤ (n : Int).tmod b := Int.tmod_nonneg _ (by omega)
  have h1 : ((n : Int).tmod b).natAbs = n % b.natAbs := by rw [Int.natAbs_tmod]; rfl
  have h3 := Nat.mod_le n b.natAbs
  have h4 := Int.natAbs_of_nonneg h2
  omega
theorem tmod_rng {a b : Int} : (0 ≤ a → 0 ≤ a.tmod b ∧ a.tmod b ≤ a) ∧ (a ≤ 0 → a ≤ a.tmod b ∧ a.tmod b ≤ 0) := by
  constructor
  · intro h
    obtain ⟨n, rfl⟩ := Int.eq_ofNat_of_zero_le h
    exact tmod_le n b
  · intro h
    obtain ⟨n, hn⟩ := Int.eq_ofNat_of_zero_le (show 0 ≤ -a by omega)
    have ha : a = -(n : Int) := by omega
    subst ha
    rw [Int.neg_tmod]
    have := tmod_le n b
    omega
theorem fdiv_rng {a : Int} {n : Nat} : (0 ≤ a → 0 ≤ a.fdiv (2 ^ n) ∧ a.fdiv (2 ^ n) ≤ a) ∧ (a ≤ 0 → a ≤ a.fdiv (2 ^ n) ∧ a.fdiv (2 ^ n) ≤ 0) := by
  have hp : (0 : Int) < 2 ^ n := Int.pow_pos (by omega)
  rw [Int.fdiv_eq_ediv_of_nonneg _ (by omega)]
  constructor
  · intro h
    exact ⟨Int.ediv_nonneg h (by omega), Int.ediv_le_self _ h⟩
  · intro h
    refine ⟨?_, Int.ediv_nonpos_of_nonpos_of_neg h hp⟩
    rw [Int.le_ediv_iff_mul_le hp]
    have h1 : (1 : Int) ≤ 2 ^ n := by omega
    have := Int.mul_le_mul_of_nonpos_left h h1
    omega

theorem E.rng_ok {ρ : Env} {vk : List (Option IntKind)} {k : IntKind} (hv : Vk ρ vk) : ∀ (e : E), e.rng vk k = true → inK k (e.I ρ) = true
  | .lit z, h => h
  | .var n, h => by
    simp only [E.rng] at h
    split at h
    · rename_i k' hk
      have := hv n k' hk
      rw [kdSame_eq h] at this
      exact this
    · cases h
  | .bin op k' a b, h => by
    simp only [E.rng, Bool.and_eq_true] at h
    obtain ⟨h1, h2⟩ := h
    have := kdSame_eq h1
    subst this
    have tail : ∀ x : Int, a.rng vk k' = true → ((0 ≤ a.I ρ → 0 ≤ x ∧ x ≤ a.I ρ) ∧ (a.I ρ ≤ 0 → a.I ρ ≤ x ∧ x ≤ 0)) → inK k' x = true := by
      intro x ha hx
      have h3 := inK_iff.1 (E.rng_ok hv a ha)
      have := kmin_le k'
      have := kmax_ge k'
      rw [inK_iff]
      by_cases h0 : 0 ≤ a.I ρ
      · have := hx.1 h0; omega
      · have := hx.2 (by omega); omega
    simp only [E.I]
    cases op <;> first
      | exact inK_wrap _ _
      | exact inK_bits _ _ _ _
      | exact tail _ h2 tmod_rng
      | exact tail _ h2 fdiv_rng
      | cases h2
  | .conv k' a, h => by
    simp only [E.rng] at h
    rw [← kdSame_eq h]
    exact inK_wrap _ _
  | .mn a b, h => by
    simp only [E.rng, Bool.and_eq_true] at h
    have h1 := inK_iff.1 (E.rng_ok hv a h.1)
    have h2 := inK_iff.1 (E.rng_ok hv b h.2)
    rw [inK_iff]
    simp only [E.I]
    omega
  | .mx a b, h => by
    simp only [E.rng, Bool.and_eq_true] at h
    have h1 := inK_iff.1 (E.rng_ok hv a h.1)
    have h2 := inK_iff.1 (E.rng_ok hv b h.2)
    rw [inK_iff]
    simp only [E.I]
    omega
  | .nil, h | .cons _ _, h | .consb _ _, h | .tt _, h | .bvar _, h | .lt _ _, h | .eq _ _, h | .not _, h | .and _ _, h | .beq _ _, h => by cases h

/-! ### Decisions -/
def Kw.look (e : E) : List (E × Bool) → Option Bool
  | [] => none
  | (x, b) :: l => if x.same e then some b else Kw.look e l

structure Good (sp : Spec) (sm : List Sm) (ρ : Env) (kw : Kw) : Prop where
  pc : ∀ p ∈ kw.pc, p.1.B ρ = p.2
  vk : Vk ρ kw.vk
  log : ∀ p ∈ kw.log, ∃ s ∈ sm, s.key = p.1 ∧ eqs sp ρ s.key p.2.2 (p.2.1.L ρ) 0 (s.res.flatMap (·.2))

theorem look_ok {ρ : Env} {e : E} {b : Bool} : ∀ {l : List (E × Bool)}, (∀ p ∈ l, p.1.B ρ = p.2) → Kw.look e l = some b → e.B ρ = b
  | (x, c) :: l, hl, h => by
    simp only [Kw.look] at h
    split at h
    · rename_i hs
      have := hl (x, c) List.mem_cons_self
      rw [← E.same_eq hs]
      cases h
      exact this
    · exact look_ok (fun p hp => hl p (List.mem_cons_of_mem _ hp)) h

/-- What the kinds' ranges decide. -/
def rngDec (vk : List (Option IntKind)) : E → Option Bool
  | .lt (.lit z) (.var n) => match vk[n]? with
    | some (some k) => if decide (k.max ≤ z) then some false else none
    | _ => none
  | .lt (.var n) (.lit z) => match vk[n]? with
    | some (some k) => if decide (z ≤ k.min) then some false else none
    | _ => none
  | _ => none
theorem rngDec_ok {ρ : Env} {vk : List (Option IntKind)} (hv : Vk ρ vk) {e : E} {b : Bool} (h : rngDec vk e = some b) : e.B ρ = b := by
  unfold rngDec at h
  split at h
  · split at h
    · rename_i k hk
      split at h
      · rename_i hz
        cases h
        have h1 := inK_iff.1 (hv _ _ hk)
        have h2 := of_decide_eq_true hz
        simp only [E.B, E.I]
        exact decide_eq_false (by omega)
      · cases h
    · cases h
  · split at h
    · rename_i k hk
      split at h
      · rename_i hz
        cases h
        have h1 := inK_iff.1 (hv _ _ hk)
        have h2 := of_decide_eq_true hz
        simp only [E.B, E.I]
        exact decide_eq_false (by omega)
      · cases h
    · cases h
  · cases h
def decA (e : E) (k : Bool → Kw → Tr) (kw : Kw) : Tr :=
  match rngDec kw.vk e with
  | some b => k b kw
  | none => match Kw.look e kw.pc with
  | some b => k b kw
  | none => .br e (k true { kw with pc := (e, true) :: kw.pc }) (k false { kw with pc := (e, false) :: kw.pc })
def decK : E → (Bool → Kw → Tr) → Kw → Tr
  | .tt b, k, kw => k b kw
  | .not a, k, kw => decK a (fun b kw => k (!b) kw) kw
  | .and a b, k, kw => decK a (fun x kw => if x then decK b k kw else k false kw) kw
  | e, k, kw => decA e k kw

section
variable {sp : Spec} {sm : List Sm} {ρ : Env} {G : V → Prop}
theorem decA_ok {e : E} {k : Bool → Kw → Tr} {kw : Kw} (h : (decA e k kw).holds sp ρ G) (hg : Good sp sm ρ kw) : ∃ kw', (k (e.B ρ) kw').holds sp ρ G ∧ Good sp sm ρ kw' := by
  unfold decA at h
  split at h
  · rename_i b hb
    rw [rngDec_ok hg.vk hb]
    exact ⟨kw, h, hg⟩
  split at h
  · rename_i b hb
    rw [look_ok hg.pc hb]
    exact ⟨kw, h, hg⟩
  · cases hb : e.B ρ with
    | true => exact ⟨_, h.1 hb, ⟨fun p hp => by
        rcases List.mem_cons.1 hp with rfl | hp
        · exact hb
        · exact hg.pc p hp, hg.vk, hg.log⟩⟩
    | false => exact ⟨_, h.2 hb, ⟨fun p hp => by
        rcases List.mem_cons.1 hp with rfl | hp
        · exact hb
        · exact hg.pc p hp, hg.vk, hg.log⟩⟩

theorem decK_ok : ∀ (e : E) (k : Bool → Kw → Tr) (kw : Kw), (decK e k kw).holds sp ρ G → Good sp sm ρ kw → ∃ kw', (k (e.B ρ) kw').holds sp ρ G ∧ Good sp sm ρ kw'
  | .tt b, k, kw, h, hg => ⟨kw, h, hg⟩
  | .not a, k, kw, h, hg => decK_ok a (fun b kw => k (!b) kw) kw h hg
  | .and a b, k, kw, h, hg => by
    obtain ⟨kw1, h1, g1⟩ := decK_ok a _ kw h hg
    simp only [E.B]
    cases ha : a.B ρ with
    | true =>
      rw [ha] at h1
      exact decK_ok b k kw1 h1 g1
    | false =>
      rw [ha] at h1
      exact ⟨kw1, h1, g1⟩
  | .lit _, k, kw, h, hg | .var _, k, kw, h, hg | .bin _ _ _ _, k, kw, h, hg | .conv _ _, k, kw, h, hg | .mn _ _, k, kw, h, hg | .mx _ _, k, kw, h, hg | .nil, k, kw, h, hg
  | .cons _ _, k, kw, h, hg | .consb _ _, k, kw, h, hg | .bvar _, k, kw, h, hg | .lt _ _, k, kw, h, hg | .eq _ _, k, kw, h, hg | .beq _ _, k, kw, h, hg => decA_ok h hg
end
end Go.Proofs.Ytcngfmhhaleoaaa

/- What each kind of operation does in a symbolic run. Nothing of the program is in here. -/
set_option linter.unusedVariables false
set_option linter.unusedSimpArgs false
namespace Go.Proofs.Ytcngfmhhaleoaaa
open Go.RowKit

structure Eff where
  val : V
  al : Option (List C × Nat) := none
  rd : List (Nat × Nat) := []
  wr : List (Nat × Nat × C) := []
  deriving Repr, Inhabited

def ofCell : Value → Option C
  | .int k z => some (.int k (.lit z))
  | .bool b => some (.bool (.tt b))
  | .pointer none => some .nilp
  | .func (.func f) ⟨[]⟩ ⟨[]⟩ => some (.fn f)
  | _ => none
def ofCells : List Value → Option (List C)
  | [] => some []
  | v :: vs => match ofCell v, ofCells vs with
    | some c, some cs => some (c :: cs)
    | _, _ => none
def ofValue : Value → Option V
  | .agg ⟨vs⟩ => (ofCells vs).map .agg
  | v => (ofCell v).map .one

theorem ofCell_ok {v : Value} {c : C} (h : ofCell v = some c) (ρ : Env) (j : Nat → Option Nat) : c.den ρ j = some v := by
  unfold ofCell at h
  split at h <;> cases h <;> rfl
theorem ofCells_ok (ρ : Env) (j : Nat → Option Nat) : ∀ {vs : List Value} {cs : List C}, ofCells vs = some cs → denL ρ j cs = some vs
  | [], cs, h => by cases h; rfl
  | v :: vs, cs, h => by
    simp only [ofCells] at h
    cases hc : ofCell v with
    | none => rw [hc] at h; cases h
    | some c =>
      cases hl : ofCells vs with
      | none => rw [hc, hl] at h; cases h
      | some l =>
        rw [hc, hl] at h; cases h
        simp only [denL, ofCell_ok hc, ofCells_ok ρ j hl]
theorem ofValue_ok {v : Value} {x : V} (h : ofValue v = some x) (ρ : Env) (j : Nat → Option Nat) : x.den ρ j = some v := by
  unfold ofValue at h
  split at h
  · rename_i vs
    cases hc : ofCells vs with
    | none => rw [hc] at h; cases h
    | some cs =>
      rw [hc] at h; cases h
      simp [V.den, ofCells_ok ρ j hc]
  · cases hc : ofCell v with
    | none => rw [hc] at h; cases h
    | some c =>
      rw [hc] at h; cases h
      exact ofCell_ok hc ρ j

def V.cells : V → List C
  | .one c => [c]
  | .agg cs => cs
  | .tup _ => []
def V.flat : V → Bool
  | .tup _ => false
  | _ => true
theorem den_oneCell {ρ : Env} {j : Nat → Option Nat} {c : C} {v : Value} (h : c.den ρ j = some v) : v.cells = #[v] := by
  cases c <;> simp only [C.den, Option.map_eq_some_iff] at h
  case ptr b o => obtain ⟨k, _, rfl⟩ := h; rfl
  all_goals cases h; rfl
theorem V.cells_ok {ρ : Env} {j : Nat → Option Nat} {x : V} {v : Value} (h : x.den ρ j = some v) (hf : x.flat = true) : denL ρ j x.cells = some v.cells.toList := by
  cases x with
  | one c =>
    have h' : c.den ρ j = some v := h
    simp [V.cells, denL, h', den_oneCell h']
  | agg cs =>
    simp only [V.den, Option.map_eq_some_iff] at h
    obtain ⟨vs, hvs, rfl⟩ := h
    simpa [V.cells, Value.cells] using hvs
  | tup _ => cases hf

def C.solid : C → Bool
  | .undef => false
  | _ => true
theorem C.solid_ok {ρ : Env} {j : Nat → Option Nat} {c : C} {v : Value} (h : c.den ρ j = some v) (hs : c.solid = true) : v.oneCell' = true := by
  cases c <;> simp only [C.den, Option.map_eq_some_iff] at h
  case ptr b o => obtain ⟨k, _, rfl⟩ := h; rfl
  case undef => cases hs
  all_goals cases h; rfl

/-- n cells of a box from a place on. -/
def rowOf (ld : Nat → Nat → Option C) (b : Nat) : Nat → Nat → Option (List C)
  | _, 0 => some []
  | o, n + 1 => match ld b o, rowOf ld b (o + 1) n with
    | some c, some cs => some (c :: cs)
    | _, _ => none
def rowRd (b : Nat) : Nat → Nat → List (Nat × Nat)
  | _, 0 => []
  | o, n + 1 => (b, o) :: rowRd b (o + 1) n
def rowWr (b : Nat) : Nat → List C → List (Nat × Nat × C)
  | _, [] => []
  | o, c :: cs => (b, o, c) :: rowWr b (o + 1) cs

/-! ### Equality of rows of cells -/
def eqCells : List C → List C → Option E
  | [], [] => some (.tt true)
  | .int k a :: l, .int k' b :: r => if kdSame k k' then (eqCells l r).map (mkAnd (mkEq a b)) else none
  | .bool a :: l, .bool b :: r => (eqCells l r).map (mkAnd (mkBeq a b))
  | _, _ => none
/-- Rows of whole numbers and truth values, of the same kinds. -/
def simVs : List Value → List Value → Prop
  | [], [] => True
  | .int k _ :: l, .int k' _ :: r => k = k' ∧ simVs l r
  | .bool _ :: l, .bool _ :: r => simVs l r
  | _, _ => False
def eqVs : List Value → List Value → Bool
  | .int _ a :: l, .int _ b :: r => (a == b) && eqVs l r
  | .bool a :: l, .bool b :: r => (a == b) && eqVs l r
  | _, _ => true
def kindsC : List C → List C → Bool
  | [], [] => true
  | .int k _ :: l, .int k' _ :: r => kdSame k k' && kindsC l r
  | .bool _ :: l, .bool _ :: r => kindsC l r
  | _, _ => false
def kindsV : List Value → List C → Prop
  | [], [] => True
  | .int k x :: l, .int k' _ :: r => k = k' ∧ inK k x = true ∧ kindsV l r
  | .bool _ :: l, .bool _ :: r => kindsV l r
  | _, _ => False
/-- All whole numbers of a result are in their kinds' ranges. -/
def C.rng (vk : List (Option IntKind)) : C → Bool
  | .int k e => e.rng vk k
  | _ => true
theorem kindsC_ok {ρ : Env} {j : Nat → Option Nat} {vk : List (Option IntKind)} (hv : Vk ρ vk) : ∀ {cs zs : List C} {vs : List Value}, kindsC cs zs = true → cs.all (C.rng vk) = true → denL ρ j cs = some vs → kindsV vs zs
  | [], [], vs, _, _, h => by cases h; trivial
  | .int k a :: l, .int k' b :: r, vs, hk, hr, h => by
    simp only [kindsC, Bool.and_eq_true] at hk
    simp only [List.all_cons, Bool.and_eq_true] at hr
    simp only [denL, C.den] at h
    cases hl : denL ρ j l with
    | none => rw [hl] at h; cases h
    | some us => rw [hl] at h; cases h; exact ⟨kdSame_eq hk.1, E.rng_ok hv a hr.1, kindsC_ok hv hk.2 hr.2 hl⟩
  | .bool a :: l, .bool b :: r, vs, hk, hr, h => by
    simp only [kindsC] at hk
    simp only [List.all_cons, Bool.and_eq_true] at hr
    simp only [denL, C.den] at h
    cases hl : denL ρ j l with
    | none => rw [hl] at h; cases h
    | some us => rw [hl] at h; cases h; exact kindsC_ok (cs := l) (zs := r) hv hk hr.2 hl
theorem kindsV_int {vs : List Value} {k : IntKind} {e : E} {r : List C} (h : kindsV vs (.int k e :: r)) : ∃ x l, vs = .int k x :: l ∧ inK k x = true ∧ kindsV l r := by
  match vs, h with
  | .int k' x :: l, h => exact ⟨x, l, by rw [h.1], by rw [← h.1]; exact h.2.1, h.2.2⟩
theorem kindsV_bool {vs : List Value} {e : E} {r : List C} (h : kindsV vs (.bool e :: r)) : ∃ x l, vs = .bool x :: l ∧ kindsV l r := by
  match vs, h with
  | .bool x :: l, h => exact ⟨x, l, rfl, h⟩
theorem kindsV_nil {vs : List Value} (h : kindsV vs []) : vs = [] := by
  cases vs with
  | nil => rfl
  | cons v l => cases v <;> exact h.elim

theorem eqCells_ok {ρ : Env} {j : Nat → Option Nat} : ∀ {cs ds : List C} {e : E}, eqCells cs ds = some e → ∃ vs us, denL ρ j cs = some vs ∧ denL ρ j ds = some us ∧ simVs vs us ∧ eqVs vs us = e.B ρ
  | [], [], e, h => by cases h; exact ⟨[], [], rfl, rfl, trivial, rfl⟩
  | .int k a :: l, .int k' b :: r, e, h => by
    simp only [eqCells] at h
    split at h
    · rename_i hk
      rw [Option.map_eq_some_iff] at h
      obtain ⟨e', he, rfl⟩ := h
      obtain ⟨vs, us, h1, h2, h3, h4⟩ := eqCells_ok (ρ := ρ) (j := j) he
      refine ⟨.int k (a.I ρ) :: vs, .int k' (b.I ρ) :: us, by simp [denL, C.den, h1], by simp [denL, C.den, h2], ⟨kdSame_eq hk, h3⟩, ?_⟩
      simp [eqVs, h4, mkAnd_B, mkEq_B]
    · cases h
  | .bool a :: l, .bool b :: r, e, h => by
    simp only [eqCells, Option.map_eq_some_iff] at h
    obtain ⟨e', he, rfl⟩ := h
    obtain ⟨vs, us, h1, h2, h3, h4⟩ := eqCells_ok (ρ := ρ) (j := j) he
    refine ⟨.bool (a.B ρ) :: vs, .bool (b.B ρ) :: us, by simp [denL, C.den, h1], by simp [denL, C.den, h2], h3, ?_⟩
    simp [eqVs, h4, mkAnd_B, mkBeq_B]

/-! ### Contracts: arguments and results -/
def encC (vk : List (Option IntKind)) : CK → C → E → Option E
  | .int k, .int k' e, t => if kdSame k k' && e.rng vk k then some (.cons e t) else none
  | .bool, .bool e, t => some (.consb e t)
  | .fn g, .fn g', t => if Nat.beq g g' then some t else none
  | .lit k z, .int k' (.lit z'), t => if kdSame k k' && zSame z z' then some t else none
  | _, _, _ => none
def encL (vk : List (Option IntKind)) : List CK → List C → E → Option E
  | [], [], t => some t
  | k :: ks, c :: cs, t => (encL vk ks cs t).bind (encC vk k c)
  | _, _, _ => none
def encV (vk : List (Option IntKind)) : Bool × List CK → V → E → Option E
  | (true, ks), .agg cs, t => encL vk ks cs t
  | (false, [k]), .one c, t => encC vk k c t
  | _, _, _ => none
def encA (vk : List (Option IntKind)) : List (Bool × List CK) → List V → Option E
  | [], [] => some .nil
  | s :: ss, v :: vs => (encA vk ss vs).bind (encV vk s v)
  | _, _ => none

def ckVal : CK → List Int → Option (Value × List Int)
  | .int k, x :: r => if inK k x then some (.int k x, r) else none
  | .bool, x :: r => some (.bool (x == 1), r)
  | .fn g, r => some (.func (.func g) #[] #[], r)
  | .lit k z, r => some (.int k z, r)
  | _, _ => none
def cksVal : List CK → List Int → Option (List Value × List Int)
  | [], r => some ([], r)
  | k :: ks, r => match ckVal k r with
    | some (v, r') => match cksVal ks r' with
      | some (vs, r'') => some (v :: vs, r'')
      | none => none
    | none => none
def shOne : Bool × List CK → List Int → Option (Value × List Int)
  | (true, ks), r => (cksVal ks r).map fun (vs, r') => (.agg vs.toArray, r')
  | (false, [k]), r => ckVal k r
  | (false, _), _ => none
def shVal : List (Bool × List CK) → List Int → Option (List Value)
  | [], [] => some []
  | s :: ss, r => match shOne s r with
    | some (v, r') => (shVal ss r').map (v :: ·)
    | none => none
  | _, _ => none

section
variable {ρ : Env} {j : Nat → Option Nat} {vk : List (Option IntKind)}
theorem encC_ok (hv : Vk ρ vk) {k : CK} {c : C} {t e : E} (h : encC vk k c t = some e) : ∃ v, c.den ρ j = some v ∧ ckVal k (e.L ρ) = some (v, t.L ρ) := by
  unfold encC at h
  split at h
  · split at h
    · rename_i hk
      cases h
      simp only [Bool.and_eq_true] at hk
      refine ⟨_, rfl, ?_⟩
      rw [kdSame_eq hk.1] at *
      simp only [E.L, ckVal, E.rng_ok hv _ hk.2, if_true]
    · cases h
  · cases h
    rename_i b
    refine ⟨_, rfl, ?_⟩
    simp only [E.L, ckVal]
    cases b.B ρ <;> simp
  · split at h
    · rename_i hg
      cases h
      refine ⟨_, rfl, ?_⟩
      rw [Nat.eq_of_beq_eq_true hg]
      rfl
    · cases h
  · split at h
    · rename_i hg
      cases h
      simp only [Bool.and_eq_true] at hg
      refine ⟨_, rfl, ?_⟩
      rw [kdSame_eq hg.1, zSame_eq hg.2]
      rfl
    · cases h
  · cases h
theorem encL_ok (hv : Vk ρ vk) : ∀ {ks : List CK} {cs : List C} {t e : E}, encL vk ks cs t = some e → ∃ vs, denL ρ j cs = some vs ∧ cksVal ks (e.L ρ) = some (vs, t.L ρ)
  | [], [], t, e, h => by cases h; exact ⟨[], rfl, rfl⟩
  | k :: ks, c :: cs, t, e, h => by
    simp only [encL, Option.bind_eq_some_iff] at h
    obtain ⟨e', h1, h2⟩ := h
    obtain ⟨vs, h3, h4⟩ := encL_ok hv h1
    obtain ⟨v, h5, h6⟩ := encC_ok (j := j) hv h2
    exact ⟨v :: vs, by simp [denL, h3, h5], by simp [cksVal, h6, h4]⟩
theorem encV_ok (hv : Vk ρ vk) {s : Bool × List CK} {x : V} {t e : E} (h : encV vk s x t = some e) : ∃ v, x.den ρ j = some v ∧ shOne s (e.L ρ) = some (v, t.L ρ) := by
  unfold encV at h
  split at h
  · obtain ⟨vs, h1, h2⟩ := encL_ok (j := j) hv h
    exact ⟨.agg vs.toArray, by simp only [V.den, h1, Option.map_some], by simp only [shOne, h2, Option.map_some]⟩
  · obtain ⟨v, h1, h2⟩ := encC_ok (j := j) hv h
    exact ⟨v, h1, h2⟩
  · cases h
theorem encA_ok (hv : Vk ρ vk) : ∀ {ss : List (Bool × List CK)} {xs : List V} {e : E}, encA vk ss xs = some e → ∀ us : List Value, (∀ (i : Nat) x u, xs[i]? = some x → us[i]? = some u → x.den ρ j = some u) → us.length = xs.length → shVal ss (e.L ρ) = some us
  | [], [], e, h, us, hu, hl => by
    cases h
    cases us with
    | nil => rfl
    | cons _ _ => cases hl
  | s :: ss, x :: xs, e, h, us, hu, hl => by
    simp only [encA, Option.bind_eq_some_iff] at h
    obtain ⟨e', h1, h2⟩ := h
    cases us with
    | nil => cases hl
    | cons u us =>
      have h3 := encA_ok hv h1 us (fun i x u hx hu' => hu (i + 1) x u (by simpa using hx) (by simpa using hu')) (by simpa using hl)
      obtain ⟨v, h5, h6⟩ := encV_ok (j := j) hv h2
      have h7 := hu 0 x u rfl rfl
      rw [h5] at h7
      cases h7
      simp [shVal, h6, h3]
end

def resCells (v0 : Nat) : Nat → List CK → List C
  | _, [] => []
  | n, .int k :: ks => .int k (.var (v0 + n)) :: resCells v0 (n + 1) ks
  | n, .bool :: ks => .bool (.bvar (v0 + n)) :: resCells v0 (n + 1) ks
  | n, .fn g :: ks => .fn g :: resCells v0 (n + 1) ks
  | n, .lit _ _ :: ks => .undef :: resCells v0 (n + 1) ks
def resParts (v0 : Nat) : Nat → List (Bool × List CK) → List (Bool × List C)
  | _, [] => []
  | n, (t, ks) :: l => (t, resCells v0 n ks) :: resParts v0 (n + ks.length) l
def resV (s : Sm) (v0 : Nat) : V :=
  if s.tup then .tup (resParts v0 0 s.res) else
  match resParts v0 0 s.res with
  | [(true, cs)] => .agg cs
  | [(false, [c])] => .one c
  | _ => .one .undef
def Sm.ks (s : Sm) : List CK := s.res.flatMap (·.2)

structure SmOk (P : Program) (sp : Spec) (s : Sm) : Prop where
  calls : ((∀ args w, (callFunc s.f args).run P w = .ok (.enter s.f args) w) ∧
      ∀ xs vals, shVal s.args xs = some vals → ∀ w, Calls P s.f vals.toArray w fun e w' => (∃ v, e = .returned v ∧ ∀ (ρ : Env) v0, eqs sp ρ s.key v0 xs 0 s.ks → (resV s v0).den ρ (fun _ => none) = some v) ∧ Ext w w') ∨
    ∀ xs vals, shVal s.args xs = some vals → ∀ w, ∃ v, (callFunc s.f vals.toArray).run P w = .ok (.value v) w ∧ ∀ (ρ : Env) v0, eqs sp ρ s.key v0 xs 0 s.ks → (resV s v0).den ρ (fun _ => none) = some v
  rng : ∀ xs vals, shVal s.args xs = some vals → ∀ (ρ : Env) v0, eqs sp ρ s.key v0 xs 0 s.ks → ∀ (n : Nat) k, s.ks[n]? = some (.int k) → inK k (ρ.i (v0 + n)) = true

structure TIok (P : Program) (t : Nat) (i : TI) : Prop where
  agg : ∀ w, (isAgg t).run P w = .ok i.agg w
  size : ∀ w, (sizeOf t).run P w = .ok i.size w
  zero : ∃ z, (∀ w, (zeroValue t).run P w = .ok z w) ∧ ∀ (ρ : Env) j, denL ρ j i.zero = some z.cells.toList
  fieldAt : ∀ f off ft, i.fields[f]? = some (off, ft) → ∀ w k o, (Instr.fieldAt t (.pointer (some ⟨k, o, none⟩)) f).run P w = .ok (.pointer (some ⟨k, o + off, none⟩)) w
  field : ∀ f off ft, i.fields[f]? = some (off, ft) → ∀ w cs, (Instr.field t (.agg cs) f).run P w = (part ft cs off).run P w
  arr : ∀ n e, i.arr = some (n, e) → P.underlying t = some (.array n e)
  str : i.agg = true → i.arr = none → ∃ fs, P.underlying t = some (.struct fs) ∧ fs.toList.map (fun f => (f.offset, f.type)) = i.fields
  ik : ∀ k, i.ik = some k → P.underlying t = some (.int k)
  und : ∃ d, P.underlying t = some d
  eq : i.eqok = true → ∀ vs us, kindsV vs i.zero → kindsV us i.zero → ∀ w, (Op.equal t (.agg vs.toArray) (.agg us.toArray)).run P w = .ok (eqVs vs us) w
  grd : i.eqok = true → P.eqGuardType P.depth t = false
  isb : i.isb = true → P.underlying t = some .bool

/-! ### The run of an operation -/
def findSm (vk : List (Option IntKind)) (f : Nat) (args : List V) : List Sm → Option (Sm × E)
  | [] => none
  | s :: l => if Nat.beq s.f f then (match encA vk s.args args with | some e => some (s, e) | none => findSm vk f args l) else findSm vk f args l
theorem findSm_ok {vk : List (Option IntKind)} {f : Nat} {args : List V} {s : Sm} {e : E} : ∀ {l : List Sm}, findSm vk f args l = some (s, e) → s ∈ l ∧ s.f = f ∧ encA vk s.args args = some e
  | x :: l, h => by
    simp only [findSm] at h
    split at h
    · rename_i hf
      split at h
      · rename_i e' he
        cases h
        exact ⟨List.mem_cons_self, Nat.eq_of_beq_eq_true hf, he⟩
      · have := findSm_ok h
        exact ⟨List.mem_cons_of_mem _ this.1, this.2⟩
    · have := findSm_ok h
      exact ⟨List.mem_cons_of_mem _ this.1, this.2⟩
def findLog (key : Nat) (e : E) : List (Nat × E × Nat) → Option Nat
  | [] => none
  | (m, x, v0) :: l => if Nat.beq m key && x.same e then some v0 else findLog key e l
theorem findLog_ok {key : Nat} {e : E} {v0 : Nat} : ∀ {l : List (Nat × E × Nat)}, findLog key e l = some v0 → (key, e, v0) ∈ l
  | (m, x, u) :: l, h => by
    simp only [findLog] at h
    split at h
    · rename_i hm
      simp only [Bool.and_eq_true] at hm
      cases h
      rw [Nat.eq_of_beq_eq_true hm.1, E.same_eq hm.2]
      exact List.mem_cons_self
    · exact List.mem_cons_of_mem _ (findLog_ok h)

def ckKind : CK → Option IntKind
  | .int k => some k
  | _ => none
def evL (ev : Operand → Option V) : List Operand → Option (List V)
  | [] => some []
  | x :: l => match ev x, evL ev l with
    | some v, some vs => some (v :: vs)
    | _, _ => none

def callK (cx : Cx) (g : Nat) (args : List V) (kw : Kw) (k : Eff → Kw → Tr) : Tr :=
  match findSm kw.vk g args cx.sm with
  | none => .stuck (100000 + g)
  | some (s, e) =>
    match findLog s.key e kw.log with
    | some v0 => k { val := resV s v0 } kw
    | none => .call s.key s.ks e kw.vk.length (k { val := resV s kw.vk.length } { kw with log := (s.key, e, kw.vk.length) :: kw.log, vk := kw.vk ++ s.ks.map ckKind })

def mmK (f : E → E → E) (k0 : IntKind) : E → List V → Option E
  | e, [] => some e
  | e, .one (.int k x) :: l => if kdSame k k0 then mmK f k0 (f e x) l else none
  | _, _ => none

def binK (cx : Cx) (op : BinOp) (xt : Nat) (x y : V) (kw : Kw) (k : Eff → Kw → Tr) : Tr :=
  match x, y with
  | .one (.int k1 a), .one (.int k2 b) =>
    match op with
    | .shl | .shr =>
      if k2.signed then decK (mkLt b (.lit 0)) (fun neg kw => if neg then .panic else k { val := .one (.int k1 (mkBin op k1 a b)) } kw) kw
      else if b.rng kw.vk k2 then k { val := .one (.int k1 (mkBin op k1 a b)) } kw else .stuck 11
    | _ =>
      if kdSame k1 k2 then
        match op with
        | .add | .sub | .mul | .and | .or | .xor | .andNot => k { val := .one (.int k1 (mkBin op k1 a b)) } kw
        | .quo | .rem => decK (mkEq b (.lit 0)) (fun z kw => if z then .panic else k { val := .one (.int k1 (mkBin op k1 a b)) } kw) kw
        | .eql => k { val := .one (.bool (mkEq a b)) } kw
        | .neq => k { val := .one (.bool (mkNot (mkEq a b))) } kw
        | .lss => k { val := .one (.bool (mkLt a b)) } kw
        | .leq => k { val := .one (.bool (mkNot (mkLt b a))) } kw
        | .gtr => k { val := .one (.bool (mkLt b a)) } kw
        | .geq => k { val := .one (.bool (mkNot (mkLt a b))) } kw
        | _ => .stuck 12
      else .stuck 13
  | .one (.bool a), .one (.bool b) =>
    match op with
    | .eql => match lookN xt cx.ty with
      | some i => if i.isb then k { val := .one (.bool (mkBeq a b)) } kw else .stuck 14
      | none => .stuck 14
    | .neq => match lookN xt cx.ty with
      | some i => if i.isb then k { val := .one (.bool (mkNot (mkBeq a b))) } kw else .stuck 14
      | none => .stuck 14
    | _ => .stuck 15
  | .agg cs, .agg ds =>
    match lookN xt cx.ty, eqCells cs ds with
    | some i, some e =>
      if i.eqok && ((kindsC cs i.zero && cs.all (C.rng kw.vk)) && (kindsC ds i.zero && ds.all (C.rng kw.vk))) then
        match op with
        | .eql => k { val := .one (.bool e) } kw
        | .neq => k { val := .one (.bool (mkNot e)) } kw
        | _ => .stuck 16
      else .stuck 17
    | _, _ => .stuck 18
  | _, _ => .stuck 19

/-- A number among those below n: the index's value by cases. -/
def pickK (e : E) (n : Nat) (k : Nat → Kw → Tr) : Nat → Kw → Tr
  | 0, _ => .panic
  | m + 1, kw => decK (mkEq e (.lit (n - (m + 1) : Nat))) (fun b kw => if b then k (n - (m + 1)) kw else pickK e n k m kw) kw

def partV (cx : Cx) (ft : Nat) (cs : List C) (off : Nat) : Option V :=
  match lookN ft cx.ty with
  | some i => if i.agg then (if off + i.size ≤ cs.length then some (.agg ((cs.drop off).take i.size)) else none) else (cs[off]?).map .one
  | none => none

def setRow : List C → Nat → List C → List C
  | cs, _, [] => cs
  | cs, off, v :: r => setRow (cs.set off v) (off + 1) r
def fillC (pl : Nat → Option (Nat × Nat)) : List C → List (Nat × V) → Option (List C)
  | cs, [] => some cs
  | cs, (i, v) :: l => match pl i with
    | some (off, size) => if v.flat && (Nat.beq v.cells.length size && decide (off + size ≤ cs.length)) then fillC pl (setRow cs off v.cells) l else none
    | none => none
def evP (ev : Operand → Option V) : List (Nat × Operand) → Option (List (Nat × V))
  | [] => some []
  | (i, x) :: l => match ev x, evP ev l with
    | some v, some vs => some ((i, v) :: vs)
    | _, _ => none
def placesOf (ty : List (Nat × TI)) : List (Nat × Nat) → Option (List (Nat × Nat))
  | [] => some []
  | (off, ft) :: l => match lookN ft ty, placesOf ty l with
    | some i, some r => some ((off, i.size) :: r)
    | _, _ => none
def buildV (cx : Cx) (t : Nat) (parts : List (Nat × V)) : Option V :=
  match lookN t cx.ty with
  | some i => match i.arr with
    | some (_, et) => match lookN et cx.ty with
      | some ie => (fillC (fun m => some (m * ie.size, ie.size)) i.zero parts).map .agg
      | none => none
    | none => if i.agg then (match placesOf cx.ty i.fields with
      | some pl => (fillC (fun m => pl[m]?) i.zero parts).map .agg
      | none => none) else none
  | none => none

def opK (cx : Cx) (ev : Operand → Option V) (ld : Nat → Nat → Option C) (nid : Nat) (op : Op) (kw : Kw) (k : Eff → Kw → Tr) : Tr :=
  match op with
  | .move x | .assign x => match ev x with
    | some v => k { val := v } kw
    | none => .stuck 1
  | .alloc t => match lookN t cx.ty with
    | some i => k { val := .one (.ptr nid 0), al := some (i.zero, t) } kw
    | none => .stuck 2
  | .box t x => match ev x with
    | some v => if v.flat then k { val := .one (.ptr nid 0), al := some (v.cells, t) } kw else .stuck 3
    | none => .stuck 3
  | .load t x => match ev x, lookN t cx.ty with
    | some (.one (.ptr b o)), some i =>
      if i.agg then (match rowOf ld b o i.size with
        | some cs => k { val := .agg cs, rd := rowRd b o i.size } kw
        | none => .stuck 4)
      else (match ld b o with
        | some c => k { val := .one c, rd := [(b, o)] } kw
        | none => .stuck 4)
    | _, _ => .stuck 5
  | .store t x y => match ev x, ev y, lookN t cx.ty with
    | some (.one (.ptr b o)), some v, some i =>
      if v.flat && (Nat.beq v.cells.length i.size && v.cells.all C.solid) then k { val := .one .undef, wr := rowWr b o v.cells } kw else .stuck 6
    | _, _, _ => .stuck 7
  | .nilCheck x => match ev x with
    | some (.one (.ptr b o)) => k { val := .one (.ptr b o) } kw
    | some (.one (.fn g)) => k { val := .one (.fn g) } kw
    | some (.one .nilp) => .panic
    | _ => .stuck 8
  | .binOp op xt x y _ => match ev x, ev y with
    | some v, some u => binK cx op xt v u kw k
    | _, _ => .stuck 9
  | .unOp op _ x => match op, ev x with
    | .not, some (.one (.bool e)) => k { val := .one (.bool (mkNot e)) } kw
    | .neg, some (.one (.int kd e)) => k { val := .one (.int kd (mkBin .sub kd (.lit 0) e)) } kw
    | .xor, some (.one (.int kd e)) => k { val := .one (.int kd (mkBin .xor kd (.lit (if kd.signed then -1 else kd.max)) e)) } kw
    | _, _ => .stuck 10
  | .convert s d x => match ev x, lookN d cx.ty, lookN s cx.ty with
    | some (.one (.int _ e)), some i, some _ => match i.ik with
      | some kd => k { val := .one (.int kd (if e.rng kw.vk kd then e else mkConv kd e)) } kw
      | none => .stuck 20
    | _, _, _ => .stuck 21
  | .fieldAddr s x f => match ev x, lookN s cx.ty with
    | some (.one (.ptr b o)), some i => match i.fields[f]? with
      | some (off, _) => k { val := .one (.ptr b (o + off)) } kw
      | none => .stuck 22
    | _, _ => .stuck 23
  | .field s x f => match ev x, lookN s cx.ty with
    | some (.agg cs), some i => match i.fields[f]? with
      | some (off, ft) => match partV cx ft cs off with
        | some v => k { val := v } kw
        | none => .stuck 24
      | none => .stuck 25
    | _, _ => .stuck 26
  | .indexAddr t x y => match ev x, ev y, lookN t cx.ty with
    | some (.one (.ptr b o)), some (.one (.int _ e)), some i => match i.arr with
      | some (n, et) => match lookN et cx.ty with
        | some ie => pickK e n (fun m kw => k { val := .one (.ptr b (o + m * ie.size)) } kw) n kw
        | none => .stuck 27
      | none => .stuck 28
    | _, _, _ => .stuck 29
  | .index t x y => match ev x, ev y, lookN t cx.ty with
    | some (.agg cs), some (.one (.int _ e)), some i => match i.arr with
      | some (n, et) => match lookN et cx.ty with
        | some ie => pickK e n (fun m kw => match partV cx et cs (m * ie.size) with
          | some v => k { val := v } kw
          | none => .stuck 30) n kw
        | none => .stuck 31
      | none => .stuck 32
    | _, _, _ => .stuck 33
  | .pick c x y => match ev c, ev x, ev y with
    | some (.one (.bool e)), some u, some v => decK e (fun b kw => k { val := if b then u else v } kw) kw
    | _, _, _ => .stuck 42
  | .build t ps => match evP ev ps.toList with
    | some parts => match buildV cx t parts with
      | some v => k { val := v } kw
      | none => .stuck 43
    | none => .stuck 44
  | .extract x n => match ev x with
    | some (.tup vs) => match vs[n]? with
      | some (true, cs) => k { val := .agg cs } kw
      | some (false, [c]) => k { val := .one c } kw
      | _ => .stuck 34
    | _ => .stuck 35
  | .call c => match c.callee with
    | .value f => match ev f, evL ev c.args.toList with
      | some (.one (.fn g)), some args => callK cx g args kw k
      | _, _ => .stuck 36
    | .builtin .min => match evL ev c.args.toList with
      | some (.one (.int k0 e) :: l) => match mmK mkMin k0 e l with
        | some e' => k { val := .one (.int k0 e') } kw
        | none => .stuck 37
      | _ => .stuck 38
    | .builtin .max => match evL ev c.args.toList with
      | some (.one (.int k0 e) :: l) => match mmK mkMax k0 e l with
        | some e' => k { val := .one (.int k0 e') } kw
        | none => .stuck 39
      | _ => .stuck 40
    | _ => .stuck 41
  | _ => .stuck 50
end Go.Proofs.Ytcngfmhhaleoaaa

/- The model's operation does what the symbolic run says. Nothing of the program is in here. -/
set_option linter.unusedVariables false
set_option linter.unusedSimpArgs false
namespace Go.Proofs.Ytcngfmhhaleoaaa
open Go.RowKit

def RdOk (ρ : Env) (j : Nat → Option Nat) (w : World) (ld : Nat → Nat → Option C) (rd : List (Nat × Nat)) : Prop :=
  ∀ p ∈ rd, ∀ c, ld p.1 p.2 = some c → ∃ k v, j p.1 = some k ∧ c.den ρ j = some v ∧ w.cell? ⟨k, p.2, none⟩ = some v
def WrOk (j : Nat → Option Nat) (w : World) (wr : List (Nat × Nat × C)) : Prop :=
  ∀ p ∈ wr, ∃ k u, j p.1 = some k ∧ w.cell? ⟨k, p.2.1, none⟩ = some u ∧ w.frozen? ⟨k, p.2.1, none⟩ = false
def Writes (ρ : Env) (j : Nat → Option Nat) : List (Nat × Nat × C) → World → World → Prop
  | [], w, w' => w' = w
  | (b, o, c) :: l, w, w' => ∃ k v, j b = some k ∧ c.den ρ j = some v ∧ Writes ρ j l (w.setCell ⟨k, o, none⟩ v) w'
def Does (ρ : Env) (nid : Nat) (eff : Eff) (j : Nat → Option Nat) (w : World) (j' : Nat → Option Nat) (w' : World) : Prop :=
  match eff.al with
  | some (cs, ty) => ∃ vs, denL ρ j cs = some vs ∧ w' = w.alloc (.cells vs.toArray ty) ∧ j' = fun b => if b = nid then some w.heap.size else j b
  | none => j' = j ∧ ∃ w1, Ext w w1 ∧ Writes ρ j eff.wr w1 w'

/-- The operation, in whatever state that agrees on what it looks at, does what eff says. -/
def OpOk (P : Program) (ρ : Env) (ev : Operand → Option V) (ld : Nat → Nat → Option C) (nid : Nat) (o : Oper) (eff : Eff) : Prop :=
  ∀ (j : Nat → Option Nat) (a : Act) (w : World), (∀ x ∈ o.op.operands.toList, ∀ v, ev x = some v → v.den ρ j = some (a.eval x)) → RdOk ρ j w ld eff.rd → WrOk j w eff.wr →
    ∀ (K : Act → World → Prop) (Q : Exit → Act → World → Prop), (∀ v j' w', eff.val.den ρ j' = some v → Does ρ nid eff j w j' w' → K (a.put o.dst v) w') → o.wp P a w K Q

theorem wp_val {P : Program} {o : Oper} {a : Act} {w w' : World} {v : Value} {K : Act → World → Prop} {Q : Exit → Act → World → Prop} (h : (execOp a.eval o).run P w = .ok (.value v) w') (hk : K (a.put o.dst v) w') : o.wp P a w K Q := by
  unfold Oper.wp; rw [h]; exact hk
theorem wp_skp {P : Program} {o : Oper} {a : Act} {w w' : World} {K : Act → World → Prop} {Q : Exit → Act → World → Prop} (h : (execOp a.eval o).run P w = .ok .skip w') (hk : K (a.put o.dst undef) w') : o.wp P a w K Q := by
  unfold Oper.wp; rw [h]; exact hk

section
variable {P : Program} {ρ : Env} {ev : Operand → Option V} {ld : Nat → Nat → Option C} {nid : Nat} {o : Oper}

/-- An operation that only reckons: it yields a value that its operands' values give. -/
theorem OpOk.pure {v : V} {rd : List (Nat × Nat)} (h : ∀ (j : Nat → Option Nat) (a : Act) (w : World), (∀ x ∈ o.op.operands.toList, ∀ v, ev x = some v → v.den ρ j = some (a.eval x)) → RdOk ρ j w ld rd →
    ∃ u, v.den ρ j = some u ∧ (execOp a.eval o).run P w = .ok (.value u) w) : OpOk P ρ ev ld nid o { val := v, rd := rd } := by
  intro j a w hev hrd _ K Q hK
  obtain ⟨u, hu, hr⟩ := h j a w hev hrd
  exact wp_val hr (hK u j w hu ⟨rfl, w, Ext.refl w, rfl⟩)

theorem run_loadCells {j : Nat → Option Nat} {b k : Nat} (hj : j b = some k) : ∀ (n o : Nat) (cs : List C), rowOf ld b o n = some cs → ∀ (w : World), RdOk ρ j w ld (rowRd b o n) → ∀ (a : Addr) (i : Nat) (acc : Array Value), (∀ m, a.add (i + m) = ⟨k, o + m, none⟩) →
    ∃ vs, denL ρ j cs = some vs ∧ (loadCellsFrom a i n acc).run P w = .ok (acc ++ vs.toArray) w
  | 0, o, cs, h, w, hrd, a, i, acc, ha => by
    cases h
    exact ⟨[], rfl, by simp [loadCellsFrom]⟩
  | n + 1, o, cs, h, w, hrd, a, i, acc, ha => by
    simp only [rowOf] at h
    cases hc : ld b o with
    | none => rw [hc] at h; cases h
    | some c =>
      cases hl : rowOf ld b (o + 1) n with
      | none => rw [hc, hl] at h; cases h
      | some l =>
        rw [hc, hl] at h; cases h
        obtain ⟨k', v, hk', hv, hcell⟩ := hrd (b, o) (by simp [rowRd]) c hc
        simp only at hk' hcell
        rw [hj] at hk'; cases hk'
        obtain ⟨vs, h1, h2⟩ := run_loadCells hj n (o + 1) l hl w (fun p hp => hrd p (by simp [rowRd]; exact .inr hp)) a (i + 1) (acc.push v) (fun m => by rw [Nat.add_assoc, Nat.add_comm 1 m, ← Nat.add_assoc, Nat.add_assoc, ha (m + 1)]; congr 1; omega)
        refine ⟨v :: vs, by simp [denL, hv, h1], ?_⟩
        have ha0 := ha 0
        simp only [Nat.add_zero] at ha0
        simp only [loadCellsFrom, ha0, Sem.run_bind, load, Sem.run, hcell, Result.andThen_ok, h2]
        simp

theorem part_ok {cx : Cx} (hT : ∀ t i, (t, i) ∈ cx.ty → TIok P t i) {ft : Nat} {cs : List C} {off : Nat} {v : V} (h : partV cx ft cs off = some v) {j : Nat → Option Nat} {vs : List Value} (hvs : denL ρ j cs = some vs) (w : World) :
    ∃ u, v.den ρ j = some u ∧ (part ft vs.toArray off).run P w = .ok u w := by
  unfold partV at h
  split at h
  · rename_i i hi
    have ht := hT _ _ (lookN_mem hi)
    split at h
    · rename_i hagg
      split at h
      · rename_i hlen
        cases h
        have h1 := denL_take (denL_drop hvs off) i.size
        refine ⟨.agg ((vs.drop off).take i.size).toArray, by simp only [V.den, h1, Option.map_some], ?_⟩
        have h2 : vs.toArray.extract off (off + i.size) = ((vs.drop off).take i.size).toArray := by
          simp [List.extract_eq_take_drop]
        simp only [part, Sem.run_bind, ht.agg, hagg, Result.andThen_ok, if_true, ht.size, h2, Sem.run_pure]
      · cases h
    · rename_i hagg
      rw [Option.map_eq_some_iff] at h
      obtain ⟨c, hc, rfl⟩ := h
      obtain ⟨u, hu, hd⟩ := denL_get hvs off c hc
      refine ⟨u, hd, ?_⟩
      have h3 : vs.toArray[off]? = some u := by simpa using hu
      simp only [part, Sem.run_bind, ht.agg, hagg, Result.andThen_ok, h3]
      simp
  · cases h
end
end Go.Proofs.Ytcngfmhhaleoaaa

/- The run of an operation is sound. Nothing of the program is in here. -/
set_option linter.unusedVariables false
set_option linter.unusedSimpArgs false
namespace Go.Proofs.Ytcngfmhhaleoaaa
open Go.RowKit

section
variable {P : Program} {sp : Spec} {ρ : Env} {G : V → Prop} {cx : Cx} {ev : Operand → Option V} {ld : Nat → Nat → Option C} {nid : Nat} {o : Oper} {k : Eff → Kw → Tr}

/-- What is to be shown of each kind of operation. -/
def Sound (P : Program) (sp : Spec) (ρ : Env) (G : V → Prop) (cx : Cx) (ev : Operand → Option V) (ld : Nat → Nat → Option C) (nid : Nat) (o : Oper) (k : Eff → Kw → Tr) : Prop :=
  ∃ eff kw', (k eff kw').holds sp ρ G ∧ Good sp cx.sm ρ kw' ∧ OpOk P ρ ev ld nid o eff

theorem run_fieldless {α : Type} (x : α) (w : World) : (pure x : Sem α).run P w = .ok x w := Sem.run_pure ..

theorem snd_move {x : Operand} {kw : Kw} (hop : o.op = .move x ∨ o.op = .assign x) {v : V} (hv : ev x = some v) (h : (k { val := v } kw).holds sp ρ G) (hg : Good sp cx.sm ρ kw) : Sound P sp ρ G cx ev ld nid o k := by
  refine ⟨_, kw, h, hg, OpOk.pure fun j a w hev _ => ⟨a.eval x, ?_, ?_⟩⟩
  · rcases hop with hop | hop <;> exact hev x (by simp [hop, Op.operands]) v hv
  · rcases hop with hop | hop <;> simp [execOp, hop]

theorem snd_alloc (hT : ∀ t i, (t, i) ∈ cx.ty → TIok P t i) {t : Nat} {kw : Kw} (hop : o.op = .alloc t) {i : TI} (hi : lookN t cx.ty = some i) (h : (k { val := .one (.ptr nid 0), al := some (i.zero, t) } kw).holds sp ρ G) (hg : Good sp cx.sm ρ kw) :
    Sound P sp ρ G cx ev ld nid o k := by
  refine ⟨_, kw, h, hg, fun j a w hev hrd hwr K Q hK => ?_⟩
  obtain ⟨z, hz, hd⟩ := (hT _ _ (lookN_mem hi)).zero
  refine wp_val (w' := w.alloc (.cells z.cells t)) (v := .pointer (some ⟨w.heap.size, 0, none⟩)) ?_ (hK _ (fun b => if b = nid then some w.heap.size else j b) _ ?_ ?_)
  · simp [execOp, hop, Instr.alloc, Sem.run_bind, hz, newVar, newRow, newObj, Sem.run]
  · simp [V.den, C.den]
  · exact ⟨z.cells.toList, hd ρ j, by simp, rfl⟩

theorem snd_box {t : Nat} {x : Operand} {kw : Kw} (hop : o.op = .box t x) {v : V} (hv : ev x = some v) (hf : v.flat = true) (h : (k { val := .one (.ptr nid 0), al := some (v.cells, t) } kw).holds sp ρ G) (hg : Good sp cx.sm ρ kw) :
    Sound P sp ρ G cx ev ld nid o k := by
  refine ⟨_, kw, h, hg, fun j a w hev hrd hwr K Q hK => ?_⟩
  have hd := V.cells_ok (hev x (by simp [hop, Op.operands]) v hv) hf
  refine wp_val (w' := w.alloc (.cells (a.eval x).cells t)) (v := .pointer (some ⟨w.heap.size, 0, none⟩)) ?_ (hK _ (fun b => if b = nid then some w.heap.size else j b) _ ?_ ?_)
  · simp [execOp, hop, Instr.box, Sem.run_bind, newVar, newRow, newObj, Sem.run]
  · simp [V.den, C.den]
  · exact ⟨_, hd, by simp, rfl⟩

theorem ptr_of {j : Nat → Option Nat} {b off : Nat} {v : Value} (h : (V.one (.ptr b off)).den ρ j = some v) : ∃ kk, j b = some kk ∧ v = .pointer (some ⟨kk, off, none⟩) := by
  simp only [V.den, C.den, Option.map_eq_some_iff] at h
  obtain ⟨kk, hk, rfl⟩ := h
  exact ⟨kk, hk, rfl⟩
theorem add_none (kk off m : Nat) : (⟨kk, off, none⟩ : Addr).add m = ⟨kk, off + m, none⟩ := by
  unfold Addr.add
  split
  · rename_i h; subst h; rfl
  · rfl

theorem snd_load_row (hT : ∀ t i, (t, i) ∈ cx.ty → TIok P t i) {t : Nat} {x : Operand} {kw : Kw} (hop : o.op = .load t x) {b off : Nat} (hx : ev x = some (.one (.ptr b off))) {i : TI} (hi : lookN t cx.ty = some i) (hagg : i.agg = true) {cs : List C} (hcs : rowOf ld b off i.size = some cs)
    (h : (k { val := .agg cs, rd := rowRd b off i.size } kw).holds sp ρ G) (hg : Good sp cx.sm ρ kw) : Sound P sp ρ G cx ev ld nid o k := by
  refine ⟨_, kw, h, hg, OpOk.pure fun j a w hev hrd => ?_⟩
  have ht := hT _ _ (lookN_mem hi)
  obtain ⟨kk, hk, he⟩ := ptr_of (hev x (by simp [hop, Op.operands]) _ hx)
  obtain ⟨vs, h1, h2⟩ := run_loadCells (P := P) hk i.size off cs hcs w hrd ⟨kk, off, none⟩ 0 #[] (fun m => by rw [add_none]; simp)
  refine ⟨.agg vs.toArray, by simp only [V.den, h1, Option.map_some], ?_⟩
  simp [execOp, hop, he, Instr.loadAt, Instr.sureAddr, Sem.run_bind, loadVar, ht.agg, hagg, ht.size, loadCells, h2]

theorem snd_load_one (hT : ∀ t i, (t, i) ∈ cx.ty → TIok P t i) {t : Nat} {x : Operand} {kw : Kw} (hop : o.op = .load t x) {b off : Nat} (hx : ev x = some (.one (.ptr b off))) {i : TI} (hi : lookN t cx.ty = some i) (hagg : ¬ i.agg = true) {c : C} (hc : ld b off = some c)
    (h : (k { val := .one c, rd := [(b, off)] } kw).holds sp ρ G) (hg : Good sp cx.sm ρ kw) : Sound P sp ρ G cx ev ld nid o k := by
  refine ⟨_, kw, h, hg, OpOk.pure fun j a w hev hrd => ?_⟩
  have ht := hT _ _ (lookN_mem hi)
  obtain ⟨kk, hk, he⟩ := ptr_of (hev x (by simp [hop, Op.operands]) _ hx)
  obtain ⟨k', v, hk', hv, hcell⟩ := hrd (b, off) (by simp) c hc
  simp only at hk' hcell
  rw [hk] at hk'; cases hk'
  have hagg' : i.agg = false := by simpa using hagg
  refine ⟨v, hv, ?_⟩
  simp [execOp, hop, he, Instr.loadAt, Instr.sureAddr, Sem.run_bind, loadVar, ht.agg, hagg', load, Sem.run, hcell]

theorem run_storeCells {j : Nat → Option Nat} {b kk : Nat} (hj : j b = some kk) (a : Addr) : ∀ (cs : List C) (off i : Nat) (vs : List Value) (w : World), (∀ m, a.add (i + m) = ⟨kk, off + m, none⟩) → denL ρ j cs = some vs → cs.all C.solid = true → WrOk j w (rowWr b off cs) →
    ∃ w', Writes ρ j (rowWr b off cs) w w' ∧ (storeCells a vs i).run P w = .ok () w'
  | [], off, i, vs, w, ha, hd, hs, hw => by
    cases hd
    exact ⟨w, rfl, by simp [storeCells]⟩
  | c :: cs, off, i, vs, w, ha, hd, hs, hw => by
    simp only [denL] at hd
    cases hc : c.den ρ j with
    | none => rw [hc] at hd; cases hd
    | some v =>
      cases hl : denL ρ j cs with
      | none => rw [hc, hl] at hd; cases hd
      | some l =>
        rw [hc, hl] at hd; cases hd
        simp only [List.all_cons, Bool.and_eq_true] at hs
        obtain ⟨k', u, hk', hu, hfr⟩ := hw (b, off, c) (by simp [rowWr])
        simp only at hk' hu hfr
        rw [hj] at hk'; cases hk'
        have hw' : WrOk j (w.setCell ⟨kk, off, none⟩ v) (rowWr b (off + 1) cs) := by
          intro p hp
          obtain ⟨k2, u2, hk2, hu2, hf2⟩ := hw p (by simp [rowWr]; exact .inr hp)
          by_cases he : (⟨k2, p.2.1, none⟩ : Addr) = ⟨kk, off, none⟩
          · refine ⟨k2, v, hk2, ?_, ?_⟩
            · rw [he]; exact World.cell?_setCell_same _ _ _ (by rw [← he]; exact hu2)
            · rw [World.frozen?_setCell]; exact hf2
          · refine ⟨k2, u2, hk2, ?_, ?_⟩
            · rw [World.cell?_setCell_other _ _ _ _ (fun e => he e.symm)]; exact hu2
            · rw [World.frozen?_setCell]; exact hf2
        obtain ⟨w', h1, h2⟩ := run_storeCells hj a cs (off + 1) (i + 1) l (w.setCell ⟨kk, off, none⟩ v) (fun m => by rw [Nat.add_assoc, Nat.add_comm 1 m, ha (m + 1)]; congr 1; omega) hl hs.2 hw'
        refine ⟨w', ⟨kk, v, hj, hc, h1⟩, ?_⟩
        have ha0 := ha 0
        simp only [Nat.add_zero] at ha0
        simp only [storeCells, ha0, Sem.run_bind, run_store P w _ v _ (C.solid_ok hc hs.1), hu, hfr, Result.andThen_ok, Bool.false_eq_true, if_false]
        exact h2

theorem snd_store (hT : ∀ t i, (t, i) ∈ cx.ty → TIok P t i) {t : Nat} {x y : Operand} {kw : Kw} (hop : o.op = .store t x y) {b off : Nat} (hx : ev x = some (.one (.ptr b off))) {v : V} (hy : ev y = some v) {i : TI} (hi : lookN t cx.ty = some i)
    (hf : v.flat = true) (hn : Nat.beq v.cells.length i.size = true) (hs : v.cells.all C.solid = true) (h : (k { val := .one .undef, wr := rowWr b off v.cells } kw).holds sp ρ G) (hg : Good sp cx.sm ρ kw) : Sound P sp ρ G cx ev ld nid o k := by
  refine ⟨_, kw, h, hg, fun j a w hev hrd hwr K Q hK => ?_⟩
  have ht := hT _ _ (lookN_mem hi)
  obtain ⟨kk, hk, he⟩ := ptr_of (hev x (by simp [hop, Op.operands]) _ hx)
  have hd := V.cells_ok (hev y (by simp [hop, Op.operands]) v hy) hf
  obtain ⟨w', h1, h2⟩ := run_storeCells (P := P) hk ⟨kk, off, none⟩ v.cells off 0 _ w (fun m => by rw [add_none]; simp) hd hs hwr
  have hsz : (a.eval y).cells.size = i.size := by
    have := denL_length hd
    rw [Array.length_toList, Nat.eq_of_beq_eq_true hn] at this
    exact this
  refine wp_skp (w' := w') ?_ (hK _ j w' rfl ⟨rfl, w, Ext.refl w, h1⟩)
  simp [execOp, hop, he, Instr.storeAt, Instr.sureAddr, Sem.run_bind, storeVar, ht.size, hsz, h2]

theorem snd_nilCheck {x : Operand} {kw : Kw} (hop : o.op = .nilCheck x) {c : C} (hx : ev x = some (.one c)) (hc : (∃ b off, c = .ptr b off) ∨ ∃ g, c = .fn g) (h : (k { val := .one c } kw).holds sp ρ G) (hg : Good sp cx.sm ρ kw) : Sound P sp ρ G cx ev ld nid o k := by
  refine ⟨_, kw, h, hg, OpOk.pure fun j a w hev _ => ⟨a.eval x, hev x (by simp [hop, Op.operands]) _ hx, ?_⟩⟩
  have hd := hev x (by simp [hop, Op.operands]) _ hx
  rcases hc with ⟨b, off, rfl⟩ | ⟨g, rfl⟩
  · obtain ⟨kk, hk, he⟩ := ptr_of hd
    simp [execOp, hop, he]
  · have he : a.eval x = .func (.func g) #[] #[] := by
      exact (Option.some.inj hd).symm
    simp [execOp, hop, he]

theorem one_int {j : Nat → Option Nat} {kd : IntKind} {e : E} {v : Value} (h : (V.one (.int kd e)).den ρ j = some v) : v = .int kd (e.I ρ) := by
  exact (Option.some.inj h).symm
theorem one_bool {j : Nat → Option Nat} {e : E} {v : Value} (h : (V.one (.bool e)).den ρ j = some v) : v = .bool (e.B ρ) := by
  exact (Option.some.inj h).symm

theorem snd_un {op : UnOp} {t : Nat} {x : Operand} {kw : Kw} (hop : o.op = .unOp op t x) {v : V} (hv : ev x = some v)
    (h : (match (generalizing := false) op, v with
      | .not, .one (.bool e) => k { val := .one (.bool (mkNot e)) } kw
      | .neg, .one (.int kd e) => k { val := .one (.int kd (mkBin .sub kd (.lit 0) e)) } kw
      | .xor, .one (.int kd e) => k { val := .one (.int kd (mkBin .xor kd (.lit (if kd.signed then -1 else kd.max)) e)) } kw
      | _, _ => .stuck 10).holds sp ρ G) (hg : Good sp cx.sm ρ kw) : Sound P sp ρ G cx ev ld nid o k := by
  split at h
  · rename_i e
    refine ⟨_, kw, h, hg, OpOk.pure fun j a w hev _ => ⟨.bool (!e.B ρ), by simp [V.den, C.den, mkNot_B], ?_⟩⟩
    rw [show execOp a.eval o = _ from by simp only [execOp, hop]; rfl]
    simp [one_bool (hev x (by simp [hop, Op.operands]) _ hv), Op.unary, Sem.run_bind]
  · rename_i kd e
    refine ⟨_, kw, h, hg, OpOk.pure fun j a w hev _ => ⟨.int kd (kd.wrap (0 - e.I ρ)), by simp [V.den, C.den, mkBin_I, opI, E.I], ?_⟩⟩
    simp [execOp, hop, one_int (hev x (by simp [hop, Op.operands]) _ hv), Op.unary, Op.intArith, Sem.run_bind]
  · rename_i kd e
    refine ⟨_, kw, h, hg, OpOk.pure fun j a w hev _ => ⟨.int kd (bits .xor kd (if kd.signed then -1 else kd.max) (e.I ρ)), by simp [V.den, C.den, mkBin_I, opI, E.I], ?_⟩⟩
    simp [execOp, hop, one_int (hev x (by simp [hop, Op.operands]) _ hv), Op.unary, intBits_xor, Sem.run_bind]
  · cases h

theorem wrap_in {kd : IntKind} {z : Int} (h : inK kd z = true) : kd.wrap z = z := by
  rw [inK_iff] at h
  cases kd <;> simp only [IntKind.min, IntKind.max, IntKind.wrap, IntKind.bits, IntKind.signed] at * <;> simp at * <;> (try split) <;> omega

theorem snd_conv (hT : ∀ t i, (t, i) ∈ cx.ty → TIok P t i) {s d : Nat} {x : Operand} {kw : Kw} (hop : o.op = .convert s d x) {k0 : IntKind} {e : E} (hx : ev x = some (.one (.int k0 e))) {i is : TI} (hi : lookN d cx.ty = some i) (his : lookN s cx.ty = some is) {kd : IntKind} (hk : i.ik = some kd)
    (h : (k { val := .one (.int kd (if e.rng kw.vk kd then e else mkConv kd e)) } kw).holds sp ρ G) (hg : Good sp cx.sm ρ kw) : Sound P sp ρ G cx ev ld nid o k := by
  have hd := (hT _ _ (lookN_mem hi)).ik kd hk
  obtain ⟨ds, hs⟩ := (hT _ _ (lookN_mem his)).und
  refine ⟨_, kw, h, hg, OpOk.pure fun j a w hev _ => ⟨.int kd (kd.wrap (e.I ρ)), ?_, ?_⟩⟩
  · split
    · rename_i hr
      simp [V.den, C.den, wrap_in (E.rng_ok hg.vk e hr)]
    · simp [V.den, C.den, mkConv_I]
  · simp [execOp, hop, one_int (hev x (by simp [hop, Op.operands]) _ hx), convert, run_underlying hs, run_underlying hd, Conv.intToInt, Sem.run_bind]

theorem snd_fieldAddr (hT : ∀ t i, (t, i) ∈ cx.ty → TIok P t i) {s f : Nat} {x : Operand} {kw : Kw} (hop : o.op = .fieldAddr s x f) {b off : Nat} (hx : ev x = some (.one (.ptr b off))) {i : TI} (hi : lookN s cx.ty = some i) {fo ft : Nat} (hf : i.fields[f]? = some (fo, ft))
    (h : (k { val := .one (.ptr b (off + fo)) } kw).holds sp ρ G) (hg : Good sp cx.sm ρ kw) : Sound P sp ρ G cx ev ld nid o k := by
  have ht := hT _ _ (lookN_mem hi)
  refine ⟨_, kw, h, hg, OpOk.pure fun j a w hev _ => ?_⟩
  obtain ⟨kk, hk, he⟩ := ptr_of (hev x (by simp [hop, Op.operands]) _ hx)
  refine ⟨.pointer (some ⟨kk, off + fo, none⟩), by simp [V.den, C.den, hk], ?_⟩
  simp [execOp, hop, he, ht.fieldAt f fo ft hf, Sem.run_bind]

theorem snd_field (hT : ∀ t i, (t, i) ∈ cx.ty → TIok P t i) {s f : Nat} {x : Operand} {kw : Kw} (hop : o.op = .field s x f) {cs : List C} (hx : ev x = some (.agg cs)) {i : TI} (hi : lookN s cx.ty = some i) {fo ft : Nat} (hf : i.fields[f]? = some (fo, ft)) {v : V} (hp : partV cx ft cs fo = some v)
    (h : (k { val := v } kw).holds sp ρ G) (hg : Good sp cx.sm ρ kw) : Sound P sp ρ G cx ev ld nid o k := by
  have ht := hT _ _ (lookN_mem hi)
  refine ⟨_, kw, h, hg, OpOk.pure fun j a w hev _ => ?_⟩
  have hd := hev x (by simp [hop, Op.operands]) _ hx
  simp only [V.den, Option.map_eq_some_iff] at hd
  obtain ⟨vs, hvs, he⟩ := hd
  obtain ⟨u, hu, hr⟩ := part_ok hT hp hvs w
  refine ⟨u, hu, ?_⟩
  simp [execOp, hop, ← he, ht.field f fo ft hf, hr, Sem.run_bind]

theorem snd_extract {x : Operand} {n : Nat} {kw : Kw} (hop : o.op = .extract x n) {vs : List (Bool × List C)} (hx : ev x = some (.tup vs)) {p : Bool × List C} (hp : vs[n]? = some p) {v : V} (hv : (∃ cs, p = (true, cs) ∧ v = .agg cs) ∨ ∃ c, p = (false, [c]) ∧ v = .one c)
    (h : (k { val := v } kw).holds sp ρ G) (hg : Good sp cx.sm ρ kw) : Sound P sp ρ G cx ev ld nid o k := by
  refine ⟨_, kw, h, hg, OpOk.pure fun j a w hev _ => ?_⟩
  have hd := hev x (by simp [hop, Op.operands]) _ hx
  simp only [V.den, Option.map_eq_some_iff] at hd
  obtain ⟨us, hus, he⟩ := hd
  obtain ⟨u, hu, hr⟩ := den0L_get hus n p hp
  refine ⟨u, ?_, ?_⟩
  · rcases hv with ⟨cs, rfl, rfl⟩ | ⟨c, rfl, rfl⟩ <;> exact hr
  · simp [execOp, hop, ← he, Instr.extract, hu, Sem.run_bind]

theorem evL_ok {j : Nat → Option Nat} {a : Act} : ∀ {l : List Operand} {vs : List V}, evL ev l = some vs → (∀ x ∈ l, ∀ v, ev x = some v → v.den ρ j = some (a.eval x)) → (∀ (i : Nat) x u, vs[i]? = some x → (l.map a.eval)[i]? = some u → x.den ρ j = some u) ∧ (l.map a.eval).length = vs.length
  | [], vs, h, hev => by cases h; exact ⟨fun i x u hx => by simp at hx, rfl⟩
  | x :: l, vs, h, hev => by
    simp only [evL] at h
    cases hc : ev x with
    | none => rw [hc] at h; cases h
    | some v =>
      cases hl : evL ev l with
      | none => rw [hc, hl] at h; cases h
      | some us =>
        rw [hc, hl] at h; cases h
        obtain ⟨h1, h2⟩ := evL_ok hl (fun y hy => hev y (List.mem_cons_of_mem _ hy))
        refine ⟨fun i y u hy hu => ?_, by simp [h2]⟩
        cases i with
        | zero =>
          simp at hy hu
          subst hy hu
          exact hev x List.mem_cons_self v hc
        | succ i => exact h1 i y u (by simpa using hy) (by simpa using hu)
end
end Go.Proofs.Ytcngfmhhaleoaaa

/- The run of an operation is sound: sums and tests, indices, least and greatest, calls; all kinds together. Nothing of the program is in here. -/
set_option linter.unusedVariables false
set_option linter.unusedSimpArgs false
namespace Go.Proofs.Ytcngfmhhaleoaaa
open Go.RowKit

section
variable {P : Program} {sp : Spec} {ρ : Env} {G : V → Prop} {cx : Cx} {ev : Operand → Option V} {ld : Nat → Nat → Option C} {nid : Nat} {o : Oper} {k : Eff → Kw → Tr}

/-- Behind whatever was decided on the way: an operation that only reckons. -/
theorem snd_int {op : BinOp} {xt yt : Nat} {x y : Operand} {kw : Kw} (hop : o.op = .binOp op xt x y yt) {k1 k2 : IntKind} {a b : E} (hx : ev x = some (.one (.int k1 a))) (hy : ev y = some (.one (.int k2 b))) {v : V} {u : Value} (hv : ∀ j, v.den ρ j = some u)
    (hr : ∀ w, (binOp op xt (.int k1 (a.I ρ)) (.int k2 (b.I ρ))).run P w = .ok u w) (h : (k { val := v } kw).holds sp ρ G) (hg : Good sp cx.sm ρ kw) : Sound P sp ρ G cx ev ld nid o k := by
  refine ⟨_, kw, h, hg, OpOk.pure fun j ac w hev _ => ⟨u, hv j, ?_⟩⟩
  have h1 := one_int (hev x (by simp [hop, Op.operands]) _ hx)
  have h2 := one_int (hev y (by simp [hop, Op.operands]) _ hy)
  have h3 := hr w
  simp [execOp, hop, h1, h2, eqGuard_at_int, h3, Sem.run_bind]

theorem snd_bools {op : BinOp} {xt yt : Nat} {x y : Operand} {kw : Kw} (hop : o.op = .binOp op xt x y yt) {a b : E} (hx : ev x = some (.one (.bool a))) (hy : ev y = some (.one (.bool b))) {v : V} {u : Value} (hv : ∀ j, v.den ρ j = some u)
    (hr : ∀ w, (binOp op xt (.bool (a.B ρ)) (.bool (b.B ρ))).run P w = .ok u w) (h : (k { val := v } kw).holds sp ρ G) (hg : Good sp cx.sm ρ kw) : Sound P sp ρ G cx ev ld nid o k := by
  refine ⟨_, kw, h, hg, OpOk.pure fun j ac w hev _ => ⟨u, hv j, ?_⟩⟩
  have h1 := one_bool (hev x (by simp [hop, Op.operands]) _ hx)
  have h2 := one_bool (hev y (by simp [hop, Op.operands]) _ hy)
  have h3 := hr w
  simp [execOp, hop, h1, h2, eqGuard_at_bool, h3, Sem.run_bind]

theorem snd_aggs (hT : ∀ t i, (t, i) ∈ cx.ty → TIok P t i) {op : BinOp} (hne : op = .eql ∨ op = .neq) {xt yt : Nat} {x y : Operand} {kw : Kw} (hop : o.op = .binOp op xt x y yt) {cs ds : List C} (hx : ev x = some (.agg cs)) (hy : ev y = some (.agg ds)) {i : TI} (hi : lookN xt cx.ty = some i) (hq : i.eqok = true) (hk1 : kindsC cs i.zero = true ∧ cs.all (C.rng kw.vk) = true) (hk2 : kindsC ds i.zero = true ∧ ds.all (C.rng kw.vk) = true) {e : E} (he : eqCells cs ds = some e)
    (h : (k { val := .one (.bool (if op = .eql then e else mkNot e)) } kw).holds sp ρ G) (hg : Good sp cx.sm ρ kw) : Sound P sp ρ G cx ev ld nid o k := by
  have ht := hT _ _ (lookN_mem hi)
  refine ⟨_, kw, h, hg, OpOk.pure fun j ac w hev _ => ⟨.bool (if op = .eql then e.B ρ else !e.B ρ), ?_, ?_⟩⟩
  · rcases hne with rfl | rfl <;> simp [V.den, C.den, mkNot_B]
  · obtain ⟨vs, us, h1, h2, h3, h4⟩ := eqCells_ok (ρ := ρ) (j := j) he
    have hdx := hev x (by simp [hop, Op.operands]) _ hx
    have hdy := hev y (by simp [hop, Op.operands]) _ hy
    simp only [V.den, h1, h2, Option.map_some, Option.some.injEq] at hdx hdy
    have h5 := ht.eq hq vs us (kindsC_ok hg.vk hk1.1 hk1.2 h1) (kindsC_ok hg.vk hk2.1 hk2.2 h2) w
    have h6 : (eqGuard op xt x y (.agg vs.toArray) (.agg us.toArray)).run P w = .ok () w := by
      rcases hne with rfl | rfl <;> simp [eqGuard, program, Sem.run_bind, Sem.run, ht.grd hq]
    rcases hne with rfl | rfl <;> simp [execOp, hop, ← hdx, ← hdy, h6, binOp, h5, h4, Sem.run_bind]

theorem inK_nonneg {kd : IntKind} {z : Int} (h : inK kd z = true) (hs : kd.signed = false) : 0 ≤ z := by
  rw [inK_iff] at h
  cases kd <;> simp only [IntKind.min, IntKind.signed] at * <;> simp at * <;> omega

theorem min_max_int {x y : Int} : (if y < x then y else x) = min x y ∧ (if y > x then y else x) = max x y := by
  constructor <;> split <;> omega

theorem snd_arith {op : BinOp} {xt yt : Nat} {x y : Operand} {kw : Kw} (hop : o.op = .binOp op xt x y yt) {k1 k2 : IntKind} {a b : E} (hx : ev x = some (.one (.int k1 a))) (hy : ev y = some (.one (.int k2 b)))
    (hr : ∀ w, (binOp op xt (.int k1 (a.I ρ)) (.int k2 (b.I ρ))).run P w = .ok (.int k1 (opI op k1 (a.I ρ) (b.I ρ))) w) (h : (k { val := .one (.int k1 (mkBin op k1 a b)) } kw).holds sp ρ G) (hg : Good sp cx.sm ρ kw) : Sound P sp ρ G cx ev ld nid o k :=
  snd_int hop hx hy (fun j => by simp [V.den, C.den, mkBin_I]) hr h hg
theorem snd_cmp {op : BinOp} {xt yt : Nat} {x y : Operand} {kw : Kw} (hop : o.op = .binOp op xt x y yt) {k1 k2 : IntKind} {a b e : E} (hx : ev x = some (.one (.int k1 a))) (hy : ev y = some (.one (.int k2 b)))
    (hr : ∀ w, (binOp op xt (.int k1 (a.I ρ)) (.int k2 (b.I ρ))).run P w = .ok (.bool (e.B ρ)) w) (h : (k { val := .one (.bool e) } kw).holds sp ρ G) (hg : Good sp cx.sm ρ kw) : Sound P sp ρ G cx ev ld nid o k :=
  snd_int hop hx hy (fun j => by simp [V.den, C.den]) hr h hg
theorem not_lt_le (a b : Int) : decide (a ≤ b) = !decide (b < a) := by
  by_cases h : a ≤ b <;> simp [h] <;> omega

theorem snd_shift {op : BinOp} {xt yt : Nat} {x y : Operand} {kw : Kw} (hop : o.op = .binOp op xt x y yt) (ho : op = .shl ∨ op = .shr) {k1 k2 : IntKind} {a b : E} (hx : ev x = some (.one (.int k1 a))) (hy : ev y = some (.one (.int k2 b)))
    (h : (if k2.signed then decK (mkLt b (.lit 0)) (fun neg kw => if neg then .panic else k { val := .one (.int k1 (mkBin op k1 a b)) } kw) kw
      else if b.rng kw.vk k2 then k { val := .one (.int k1 (mkBin op k1 a b)) } kw else .stuck 11 : Tr).holds sp ρ G) (hg : Good sp cx.sm ρ kw) : Sound P sp ρ G cx ev ld nid o k := by
  have hr : ¬ b.I ρ < 0 → ∀ w, (binOp op xt (.int k1 (a.I ρ)) (.int k2 (b.I ρ))).run P w = .ok (.int k1 (opI op k1 (a.I ρ) (b.I ρ))) w := by
    intro hb w
    rcases ho with rfl | rfl <;> simp [binOp, Op.shift, hb, opI]
  split at h
  · obtain ⟨kw', h1, g1⟩ := decK_ok _ _ _ h hg
    rw [mkLt_B] at h1
    split at h1
    · exact h1.elim
    · rename_i hb
      exact snd_arith hop hx hy (hr (fun hlt => hb (decide_eq_true hlt))) h1 g1
  · rename_i hsg
    split at h
    · rename_i hrg
      have := inK_nonneg (E.rng_ok hg.vk b hrg) (by simpa using hsg)
      exact snd_arith hop hx hy (hr (by omega)) h hg
    · exact h.elim
theorem snd_div {op : BinOp} {xt yt : Nat} {x y : Operand} {kw : Kw} (hop : o.op = .binOp op xt x y yt) (ho : op = .quo ∨ op = .rem) {k1 : IntKind} {a b : E} (hx : ev x = some (.one (.int k1 a))) (hy : ev y = some (.one (.int k1 b)))
    (h : (decK (mkEq b (.lit 0)) (fun z kw => if z then .panic else k { val := .one (.int k1 (mkBin op k1 a b)) } kw) kw : Tr).holds sp ρ G) (hg : Good sp cx.sm ρ kw) : Sound P sp ρ G cx ev ld nid o k := by
  obtain ⟨kw', h1, g1⟩ := decK_ok _ _ _ h hg
  rw [mkEq_B] at h1
  split at h1
  · exact h1.elim
  · rename_i hb
    have hb' : ¬ b.I ρ = 0 := by simpa [E.I] using hb
    refine snd_arith hop hx hy (fun w => ?_) h1 g1
    rcases ho with rfl | rfl <;> simp [opI, binOp_quo, binOp_rem, Op.intDiv, hb']

theorem snd_bin (hT : ∀ t i, (t, i) ∈ cx.ty → TIok P t i) {op : BinOp} {xt yt : Nat} {x y : Operand} {kw : Kw} (hop : o.op = .binOp op xt x y yt) {v u : V} (hx : ev x = some v) (hy : ev y = some u) (h : (binK cx op xt v u kw k).holds sp ρ G) (hg : Good sp cx.sm ρ kw) : Sound P sp ρ G cx ev ld nid o k := by
  unfold binK at h
  split at h
  · split at h
    · exact snd_shift hop (.inl rfl) hx hy h hg
    · exact snd_shift hop (.inr rfl) hx hy h hg
    · split at h
      · rename_i hk
        have hk' := kdSame_eq hk
        subst hk'
        split at h
        · exact snd_arith hop hx hy (fun w => by simp [opI, binOp_add, Op.intArith]) h hg
        · exact snd_arith hop hx hy (fun w => by simp [opI, binOp_sub, Op.intArith]) h hg
        · exact snd_arith hop hx hy (fun w => by simp [opI, binOp_mul, Op.intArith]) h hg
        · exact snd_arith hop hx hy (fun w => by simp [opI, binOp_and, intBits_and]) h hg
        · exact snd_arith hop hx hy (fun w => by simp [opI, binOp_or, intBits_or]) h hg
        · exact snd_arith hop hx hy (fun w => by simp [opI, binOp_xor, intBits_xor]) h hg
        · exact snd_arith hop hx hy (fun w => by simp [opI, binOp_andNot, intBits_andNot]) h hg
        · exact snd_div hop (.inl rfl) hx hy h hg
        · exact snd_div hop (.inr rfl) hx hy h hg
        · exact snd_cmp hop hx hy (fun w => by simp [binOp_eql, mkEq_B]) h hg
        · exact snd_cmp hop hx hy (fun w => by simp [binOp_neq, mkNot_B, mkEq_B]; rfl) h hg
        · exact snd_cmp hop hx hy (fun w => by simp [binOp_lss, mkLt_B]) h hg
        · exact snd_cmp hop hx hy (fun w => by simp only [binOp_leq, mkNot_B, mkLt_B, not_lt_le]; rfl) h hg
        · exact snd_cmp hop hx hy (fun w => by simp [binOp_gtr, mkLt_B]) h hg
        · exact snd_cmp hop hx hy (fun w => by simp only [binOp_geq, mkNot_B, mkLt_B, ge_iff_le, not_lt_le]; rfl) h hg
        · exact h.elim
      · exact h.elim
  · rename_i a b
    have eqb : ∀ (i : TI), lookN xt cx.ty = some i → i.isb = true → ∀ w, (Op.equal xt (.bool (a.B ρ)) (.bool (b.B ρ))).run P w = .ok (a.B ρ == b.B ρ) w := by
      intro i hi hb w
      have hu := (hT _ _ (lookN_mem hi)).isb hb
      unfold Op.equal Op.maxDepth Op.equalIn
      simp [Sem.run_bind, run_underlying hu]
    split at h
    · split at h
      · rename_i i hi
        split at h
        · rename_i hb
          have h3 := eqb i hi hb
          exact snd_bools hop hx hy (u := .bool (a.B ρ == b.B ρ)) (fun j => by simp [V.den, C.den, mkBeq_B]) (fun w => by simp [binOp, h3, Sem.run_bind]) h hg
        · exact h.elim
      · exact h.elim
    · split at h
      · rename_i i hi
        split at h
        · rename_i hb
          have h3 := eqb i hi hb
          exact snd_bools hop hx hy (u := .bool (!(a.B ρ == b.B ρ))) (fun j => by simp [V.den, C.den, mkBeq_B, mkNot_B]) (fun w => by simp [binOp, h3, Sem.run_bind]) h hg
        · exact h.elim
      · exact h.elim
    · exact h.elim
  · split at h
    · rename_i i e hi he
      split at h
      · rename_i hq
        simp only [Bool.and_eq_true] at hq
        split at h
        · exact snd_aggs hT (.inl rfl) hop hx hy hi hq.1 hq.2.1 hq.2.2 he h hg
        · exact snd_aggs hT (.inr rfl) hop hx hy hi hq.1 hq.2.1 hq.2.2 he h hg
        · exact h.elim
      · exact h.elim
    · exact h.elim
  · exact h.elim
end
end Go.Proofs.Ytcngfmhhaleoaaa

/- The run of an operation is sound: indices, least and greatest, calls; all kinds together. Nothing of the program is in here. -/
set_option linter.unusedVariables false
set_option linter.unusedSimpArgs false
namespace Go.Proofs.Ytcngfmhhaleoaaa
open Go.RowKit

section
variable {P : Program} {sp : Spec} {ρ : Env} {G : V → Prop} {cx : Cx} {ev : Operand → Option V} {ld : Nat → Nat → Option C} {nid : Nat} {o : Oper} {k : Eff → Kw → Tr}

theorem pickK_ok {e : E} {n : Nat} {kk : Nat → Kw → Tr} : ∀ (m : Nat) (kw : Kw), m ≤ n → (pickK e n kk m kw).holds sp ρ G → Good sp cx.sm ρ kw → ∃ i kw', i < n ∧ e.I ρ = (i : Int) ∧ (kk i kw').holds sp ρ G ∧ Good sp cx.sm ρ kw'
  | 0, kw, _, h, hg => h.elim
  | m + 1, kw, hm, h, hg => by
    simp only [pickK] at h
    obtain ⟨kw1, h1, g1⟩ := decK_ok _ _ _ h hg
    rw [mkEq_B] at h1
    split at h1
    · rename_i hb
      have hb' : e.I ρ = ((n - (m + 1) : Nat) : Int) := by simpa [E.I] using hb
      exact ⟨n - (m + 1), kw1, by omega, hb', h1, g1⟩
    · exact pickK_ok m kw1 (by omega) h1 g1

theorem snd_indexAddr (hT : ∀ t i, (t, i) ∈ cx.ty → TIok P t i) {t : Nat} {x y : Operand} {kw : Kw} (hop : o.op = .indexAddr t x y) {b off : Nat} (hx : ev x = some (.one (.ptr b off))) {k0 : IntKind} {e : E} (hy : ev y = some (.one (.int k0 e))) {i : TI} (hi : lookN t cx.ty = some i)
    {n et : Nat} (ha : i.arr = some (n, et)) {ie : TI} (hie : lookN et cx.ty = some ie) (h : (pickK e n (fun m kw => k { val := .one (.ptr b (off + m * ie.size)) } kw) n kw).holds sp ρ G) (hg : Good sp cx.sm ρ kw) : Sound P sp ρ G cx ev ld nid o k := by
  obtain ⟨m, kw', hm, he, h1, g1⟩ := pickK_ok n kw (Nat.le_refl _) h hg
  have hu := (hT _ _ (lookN_mem hi)).arr n et ha
  have hs := (hT _ _ (lookN_mem hie)).size
  refine ⟨_, kw', h1, g1, OpOk.pure fun j a w hev _ => ?_⟩
  obtain ⟨kk, hk, hp⟩ := ptr_of (hev x (by simp [hop, Op.operands]) _ hx)
  have hq := one_int (hev y (by simp [hop, Op.operands]) _ hy)
  refine ⟨.pointer (some ⟨kk, off + m * ie.size, none⟩), by simp [V.den, C.den, hk], ?_⟩
  have hlt : (0 : Int) ≤ (m : Int) ∧ (m : Int) < (n : Int) := by omega
  simp [execOp, hop, hp, hq, he, Instr.indexAt, run_underlying hu, Instr.sureAddr, asIntOf, hlt, hs, Sem.run_bind, add_none]
  omega

theorem snd_index (hT : ∀ t i, (t, i) ∈ cx.ty → TIok P t i) {t : Nat} {x y : Operand} {kw : Kw} (hop : o.op = .index t x y) {cs : List C} (hx : ev x = some (.agg cs)) {k0 : IntKind} {e : E} (hy : ev y = some (.one (.int k0 e))) {i : TI} (hi : lookN t cx.ty = some i)
    {n et : Nat} (ha : i.arr = some (n, et)) {ie : TI} (hie : lookN et cx.ty = some ie) (h : (pickK e n (fun m kw => match partV cx et cs (m * ie.size) with | some v => k { val := v } kw | none => .stuck 30) n kw).holds sp ρ G) (hg : Good sp cx.sm ρ kw) : Sound P sp ρ G cx ev ld nid o k := by
  obtain ⟨m, kw', hm, he, h1, g1⟩ := pickK_ok n kw (Nat.le_refl _) h hg
  have hu := (hT _ _ (lookN_mem hi)).arr n et ha
  have hs := (hT _ _ (lookN_mem hie)).size
  split at h1
  · rename_i v hv
    refine ⟨_, kw', h1, g1, OpOk.pure fun j a w hev _ => ?_⟩
    have hd := hev x (by simp [hop, Op.operands]) _ hx
    simp only [V.den, Option.map_eq_some_iff] at hd
    obtain ⟨vs, hvs, hp⟩ := hd
    have hq := one_int (hev y (by simp [hop, Op.operands]) _ hy)
    obtain ⟨u, hu', hr⟩ := part_ok hT hv hvs w
    refine ⟨u, hu', ?_⟩
    have hlt : (0 : Int) ≤ (m : Int) ∧ (m : Int) < (n : Int) := by omega
    simp [execOp, hop, ← hp, hq, he, Instr.index, run_underlying hu, asIntOf, hlt, hs, Sem.run_bind, hr]
    omega
  · exact h1.elim

theorem mm_ok {f : E → E → E} {g : Int → Int → Int} (hf : ∀ a b, (f a b).I ρ = g (a.I ρ) (b.I ρ)) {m2 : Value → Value → Sem Value} {k0 : IntKind} (hm : ∀ x y w, (m2 (.int k0 x) (.int k0 y)).run P w = .ok (.int k0 (g x y)) w) {j : Nat → Option Nat} :
    ∀ (l : List V) (e e' : E) (us : List Value), mmK f k0 e l = some e' → (∀ (i : Nat) x u, l[i]? = some x → us[i]? = some u → x.den ρ j = some u) → us.length = l.length → ∀ w, (us.foldlM m2 (.int k0 (e.I ρ))).run P w = .ok (.int k0 (e'.I ρ)) w
  | [], e, e', us, h, hu, hl, w => by
    cases h
    cases us with
    | nil => simp
    | cons _ _ => cases hl
  | v :: l, e, e', us, h, hu, hl, w => by
    cases us with
    | nil => cases hl
    | cons u us =>
      cases v with
      | one c =>
        cases c with
        | int kd x =>
          simp only [mmK] at h
          split at h
          · rename_i hk
            have := kdSame_eq hk
            subst this
            have h1 := one_int (hu 0 _ u rfl rfl)
            subst h1
            have h2 := mm_ok hf hm l (f e x) e' us h (fun i y u hy hu' => hu (i + 1) y u (by simpa using hy) (by simpa using hu')) (by simpa using hl) w
            rw [hf] at h2
            simp only [List.foldlM_cons, Sem.run_bind, hm, Result.andThen_ok, h2]
          · cases h
        | _ => simp [mmK] at h
      | _ => simp [mmK] at h

theorem map_toList {c : Call} {a : Act} : (c.args.map a.eval).toList = c.args.toList.map a.eval := Array.toList_map ..

theorem snd_mm (mx : Bool) {c : Call} {kw : Kw} (hop : o.op = .call c) (hc : c.callee = .builtin (if mx then .max else .min)) {k0 : IntKind} {e e' : E} {l : List V} (hl : evL ev c.args.toList = some (.one (.int k0 e) :: l)) (he : mmK (if mx then mkMax else mkMin) k0 e l = some e')
    (h : (k { val := .one (.int k0 e') } kw).holds sp ρ G) (hg : Good sp cx.sm ρ kw) : Sound P sp ρ G cx ev ld nid o k := by
  refine ⟨_, kw, h, hg, OpOk.pure fun j a w hev _ => ⟨.int k0 (e'.I ρ), rfl, ?_⟩⟩
  obtain ⟨h1, h2⟩ := evL_ok (j := j) (a := a) hl (fun x hx => hev x (by simp [hop, Op.operands, Call.operands]; exact .inr (by simpa using hx)))
  obtain ⟨u, us, hus⟩ : ∃ u us, c.args.toList.map a.eval = u :: us := by
    cases hm : c.args.toList.map a.eval with
    | nil => rw [hm] at h2; cases h2
    | cons u us => exact ⟨u, us, rfl⟩
  rw [hus] at h1 h2
  have hu := one_int (h1 0 _ u rfl rfl)
  subst hu
  have hlist : (c.args.map a.eval).toList = .int k0 (e.I ρ) :: us := by rw [map_toList, hus]
  cases mx with
  | true =>
    have h3 := mm_ok (P := P) (ρ := ρ) (f := mkMax) (g := max) (mkMax_I ρ) (m2 := Builtin.max2) (k0 := k0) (fun x y w => by simp [Builtin.max2, min_max_int.2]) l e e' us (by simpa using he) (fun i x u hx hu => h1 (i + 1) x u (by simpa using hx) (by simpa using hu)) (by simpa using h2) w
    simp only [execOp, hop, resolve, hc, if_true, Sem.run_bind, Sem.run_pure, Result.andThen_ok, invoke, builtin, Builtin.max_, hlist, h3]
  | false =>
    have h3 := mm_ok (P := P) (ρ := ρ) (f := mkMin) (g := min) (mkMin_I ρ) (m2 := Builtin.min2) (k0 := k0) (fun x y w => by simp [Builtin.min2, min_max_int.1]) l e e' us (by simpa using he) (fun i x u hx hu => h1 (i + 1) x u (by simpa using hx) (by simpa using hu)) (by simpa using h2) w
    simp only [execOp, hop, resolve, hc, Bool.false_eq_true, if_false, Sem.run_bind, Sem.run_pure, Result.andThen_ok, invoke, builtin, Builtin.min_, hlist, h3]

theorem Vk_app {vk : List (Option IntKind)} {ks : List CK} (hv : Vk ρ vk) (hr : ∀ (n : Nat) k, ks[n]? = some (.int k) → inK k (ρ.i (vk.length + n)) = true) : Vk ρ (vk ++ ks.map ckKind) := by
  intro n kd h
  rcases Nat.lt_or_ge n vk.length with hlt | hge
  · rw [List.getElem?_append_left hlt] at h
    exact hv n kd h
  · rw [List.getElem?_append_right hge, List.getElem?_map, Option.map_eq_some_iff] at h
    obtain ⟨c, hc, hk⟩ := h
    cases c with
    | int k' =>
      simp only [ckKind, Option.some.injEq] at hk
      subst hk
      have := hr _ _ hc
      rwa [show vk.length + (n - vk.length) = n by omega] at this
    | bool => cases hk
    | fn _ => cases hk
    | lit _ _ => cases hk

theorem encA_some {vk : List (Option IntKind)} (hv : Vk ρ vk) : ∀ {ss : List (Bool × List CK)} {xs : List V} {e : E}, encA vk ss xs = some e → ∃ us, shVal ss (e.L ρ) = some us
  | [], [], e, h => by cases h; exact ⟨[], rfl⟩
  | s :: ss, x :: xs, e, h => by
    simp only [encA, Option.bind_eq_some_iff] at h
    obtain ⟨e', h1, h2⟩ := h
    obtain ⟨us, h3⟩ := encA_some hv h1
    obtain ⟨v, h5, h6⟩ := encV_ok (j := fun _ => none) hv h2
    exact ⟨v :: us, by simp [shVal, h6, h3]⟩

theorem snd_call (hS : ∀ s ∈ cx.sm, SmOk P sp s) (hkeys : ∀ s ∈ cx.sm, ∀ s' ∈ cx.sm, s.key = s'.key → s = s') {c : Call} {kw : Kw} (hop : o.op = .call c) {f : Operand} (hc : c.callee = .value f) {g : Nat} (hf : ev f = some (.one (.fn g))) {args : List V} (hl : evL ev c.args.toList = some args)
    (h : (callK cx g args kw k).holds sp ρ G) (hg : Good sp cx.sm ρ kw) : Sound P sp ρ G cx ev ld nid o k := by
  unfold callK at h
  split at h
  · exact h.elim
  · rename_i s e hfind
    obtain ⟨hs, hsf, henc⟩ := findSm_ok hfind
    have ok := hS s hs
    have main : ∀ v0 kw', eqs sp ρ s.key v0 (e.L ρ) 0 s.ks → (k { val := resV s v0 } kw').holds sp ρ G → Good sp cx.sm ρ kw' → Sound P sp ρ G cx ev ld nid o k := by
      intro v0 kw' heq hh hg'
      refine ⟨_, kw', hh, hg', fun j a w hev hrd hwr K Q hK => ?_⟩
      obtain ⟨h1, h2⟩ := evL_ok (j := j) (a := a) hl (fun x hx => hev x (by simp [hop, Op.operands, Call.operands]; exact .inr (by simpa using hx)))
      have h3 := encA_ok hg.vk henc _ h1 h2
      have h4 := hev f (by simp [hop, Op.operands, Call.operands, hc]) _ hf
      have h5 : a.eval f = .func (.func g) #[] #[] := (Option.some.inj h4).symm
      have h7 : c.args.map a.eval = (c.args.toList.map a.eval).toArray := by rw [← map_toList]
      have h6 : (execOp a.eval o).run P w = (callFunc s.f (c.args.toList.map a.eval).toArray).run P w := by
        rw [hsf, ← h7]
        simp only [execOp, hop, resolve, hc, h5, Deferred.ofValue, Sem.run_bind, Sem.run_pure, Result.andThen_ok, invoke, Array.empty_append, Array.append_empty]
      rcases ok.calls with ⟨henter, hcalls⟩ | hdir
      · unfold Oper.wp
        rw [h6, henter]
        show Calls P s.f _ w _
        refine (hcalls _ _ h3 w).mono ?_
        rintro e' w' ⟨⟨v, rfl, hv⟩, hx⟩
        exact hK v j w' (V.den_sub (fun _ _ hh => by cases hh) (hv ρ v0 heq)) ⟨rfl, w', hx, rfl⟩
      · obtain ⟨v, hr, hv⟩ := hdir _ _ h3 w
        rw [hr] at h6
        exact wp_val h6 (hK v j w (V.den_sub (fun _ _ hh => by cases hh) (hv ρ v0 heq)) ⟨rfl, w, Ext.refl w, rfl⟩)
    split at h
    · rename_i v0 hlog
      obtain ⟨s', hs', hk', heq⟩ := hg.log _ (findLog_ok hlog)
      have := hkeys s' hs' s hs hk'
      subst this
      exact main v0 kw heq h hg
    · obtain ⟨heq, h⟩ := h
      refine main _ _ heq h ⟨hg.pc, ?_, ?_⟩
      · have h8 : ∃ us, shVal s.args (e.L ρ) = some us := by
          exact encA_some hg.vk henc
        obtain ⟨us, hus⟩ := h8
        exact Vk_app hg.vk (fun n kd hn => ok.rng _ us hus ρ _ heq n kd hn)
      · intro p hp
        rcases List.mem_cons.1 hp with rfl | hp
        · exact ⟨s, hs, rfl, heq⟩
        · exact hg.log p hp

theorem snd_pick {c x y : Operand} {kw : Kw} (hop : o.op = .pick c x y) {e : E} {u v : V} (hc : ev c = some (.one (.bool e))) (hx : ev x = some u) (hy : ev y = some v)
    (h : (decK e (fun b kw => k { val := if b then u else v } kw) kw).holds sp ρ G) (hg : Good sp cx.sm ρ kw) : Sound P sp ρ G cx ev ld nid o k := by
  obtain ⟨kw', h1, g1⟩ := decK_ok _ _ _ h hg
  refine ⟨_, kw', h1, g1, OpOk.pure fun j a w hev _ => ⟨if e.B ρ then a.eval x else a.eval y, ?_, ?_⟩⟩
  · have h2 := hev x (by simp [hop, Op.operands]) _ hx
    have h3 := hev y (by simp [hop, Op.operands]) _ hy
    cases e.B ρ
    · exact h3
    · exact h2
  · have h2 := one_bool (hev c (by simp [hop, Op.operands]) _ hc)
    simp [execOp, hop, h2, asBool, Sem.run_bind]

def setRowV : List Value → Nat → List Value → List Value
  | cs, _, [] => cs
  | cs, off, v :: r => setRowV (cs.set off v) (off + 1) r
theorem setRow_ok {j : Nat → Option Nat} : ∀ {vs : List C} {us : List Value} {cs : List C} {ws : List Value} {off : Nat}, denL ρ j vs = some us → denL ρ j cs = some ws → denL ρ j (setRow cs off vs) = some (setRowV ws off us)
  | [], us, cs, ws, off, h, h' => by cases h; exact h'
  | v :: vs, us, cs, ws, off, h, h' => by
    simp only [denL] at h
    cases hc : v.den ρ j with
    | none => rw [hc] at h; cases h
    | some u =>
      cases hl : denL ρ j vs with
      | none => rw [hc, hl] at h; cases h
      | some l =>
        rw [hc, hl] at h; cases h
        exact setRow_ok (vs := vs) (us := l) hl (denL_set h' off v u hc)
theorem foldl_row (off : Nat) : ∀ (l : List Value) (m : Nat) (cells : Array Value), ((l.zipIdx m).foldl (fun cs (p : Value × Nat) => cs.setIfInBounds (off + p.2) p.1) cells).toList = setRowV cells.toList (off + m) l
  | [], m, cells => rfl
  | v :: l, m, cells => by
    simp only [List.zipIdx_cons, List.foldl_cons]
    rw [foldl_row off l (m + 1)]
    simp [setRowV, Nat.add_assoc]
theorem fill_ok {j : Nat → Option Nat} {pl : Nat → Option (Nat × Nat)} : ∀ (parts : List (Nat × V)) (cs cs' : List C) (us : List (Nat × Value)) (cells : Array Value), fillC pl cs parts = some cs' → denL ρ j cs = some cells.toList → (parts.map (·.1) = us.map (·.1)) →
    (∀ (i : Nat) p u, parts[i]? = some p → us[i]? = some u → p.2.den ρ j = some u.2) → ∃ cells', Instr.fill pl cells us = some cells' ∧ denL ρ j cs' = some cells'.toList
  | [], cs, cs', us, cells, h, hd, hm, hu => by
    cases us with
    | nil => cases h; exact ⟨cells, rfl, hd⟩
    | cons _ _ => simp at hm
  | (i, v) :: parts, cs, cs', us, cells, h, hd, hm, hu => by
    cases us with
    | nil => simp at hm
    | cons u us =>
      obtain ⟨i', u⟩ := u
      simp only [List.map_cons, List.cons.injEq] at hm
      obtain ⟨rfl, hm⟩ := hm
      simp only [fillC] at h
      split at h
      · rename_i off size hp
        split at h
        · rename_i hc
          simp only [Bool.and_eq_true, decide_eq_true_eq] at hc
          obtain ⟨h1, h2, h3⟩ := hc
          have hv := hu 0 _ _ rfl rfl
          have hcells := V.cells_ok hv h1
          have hl1 := denL_length hcells
          have hl2 := denL_length hd
          rw [Nat.eq_of_beq_eq_true h2] at hl1
          simp only [Array.length_toList] at hl1 hl2
          have hrow : denL ρ j (setRow cs off v.cells) = some ((u.cells.zipIdx.foldl (fun cs (p : Value × Nat) => cs.setIfInBounds (off + p.2) p.1) cells)).toList := by
            rw [← Array.foldl_toList, Array.toList_zipIdx, foldl_row]
            exact setRow_ok hcells hd
          obtain ⟨cells', h5, h6⟩ := fill_ok parts _ cs' us _ h hrow hm (fun i p w hp' hw => hu (i + 1) p w (by simpa using hp') (by simpa using hw))
          refine ⟨cells', ?_, h6⟩
          unfold Instr.fill
          have hc1 : ¬ (u.cells.size ≠ size || decide (off + u.cells.size > cells.size)) = true := by simp; omega
          simp only [hp]
          rw [if_neg hc1]
          exact h5
        · cases h
      · cases h
theorem evP_ok {j : Nat → Option Nat} {a : Act} : ∀ {l : List (Nat × Operand)} {vs : List (Nat × V)}, evP ev l = some vs → (∀ x ∈ l.map (·.2), ∀ v, ev x = some v → v.den ρ j = some (a.eval x)) →
    vs.map (·.1) = (l.map fun p => (p.1, a.eval p.2)).map (·.1) ∧ ∀ (i : Nat) p u, vs[i]? = some p → (l.map fun p => (p.1, a.eval p.2))[i]? = some u → p.2.den ρ j = some u.2
  | [], vs, h, hev => by cases h; exact ⟨rfl, fun i p u hp => by simp at hp⟩
  | (n, x) :: l, vs, h, hev => by
    simp only [evP] at h
    cases hc : ev x with
    | none => rw [hc] at h; cases h
    | some v =>
      cases hl : evP ev l with
      | none => rw [hc, hl] at h; cases h
      | some us =>
        rw [hc, hl] at h; cases h
        obtain ⟨h1, h2⟩ := evP_ok (a := a) (j := j) hl (fun y hy => hev y (List.mem_cons_of_mem _ hy))
        refine ⟨by simp [h1], fun i p u hp hu => ?_⟩
        cases i with
        | zero =>
          simp at hp hu
          subst hp hu
          exact hev x List.mem_cons_self v hc
        | succ i => exact h2 i p u (by simpa using hp) (by simpa using hu)
theorem placesOf_ok (hT : ∀ t i, (t, i) ∈ cx.ty → TIok P t i) : ∀ (fs : List Field) (l pl : List (Nat × Nat)), fs.map (fun f => (f.offset, f.type)) = l → placesOf cx.ty l = some pl → ∀ w, (fs.mapM (m := Sem) fun f => do pure (f.offset, ← sizeOf f.type)).run P w = .ok pl w
  | [], l, pl, hl, h, w => by subst hl; cases h; simp
  | f :: fs, l, pl, hl, h, w => by
    subst hl
    simp only [List.map_cons, placesOf] at h
    split at h
    · rename_i i r hi hr
      cases h
      have := (hT _ _ (lookN_mem hi)).size
      rw [List.mapM_cons]
      simp only [Sem.run_bind, this, Result.andThen_ok, Sem.run_pure]
      rw [placesOf_ok hT fs _ r rfl hr w]
      simp
    · cases h

theorem snd_build (hT : ∀ t i, (t, i) ∈ cx.ty → TIok P t i) {t : Nat} {ps : Array (Nat × Operand)} {kw : Kw} (hop : o.op = .build t ps) {parts : List (Nat × V)} (hps : evP ev ps.toList = some parts) {v : V} (hv : buildV cx t parts = some v)
    (h : (k { val := v } kw).holds sp ρ G) (hg : Good sp cx.sm ρ kw) : Sound P sp ρ G cx ev ld nid o k := by
  refine ⟨_, kw, h, hg, OpOk.pure fun j a w hev _ => ?_⟩
  obtain ⟨h1, h2⟩ := evP_ok (a := a) (j := j) hps (fun x hx => hev x (by
    simp only [hop, Op.operands]
    simpa using hx))
  have h3 : (ps.map fun p => (p.1, a.eval p.2)).toList = ps.toList.map fun p => (p.1, a.eval p.2) := Array.toList_map ..
  have hx : execOp a.eval o = (do let v ← Instr.build t (ps.map fun p => (p.1, a.eval p.2)); pure (.value v)) := by simp only [execOp, hop]
  unfold buildV at hv
  split at hv
  · rename_i i hi
    have ht := hT _ _ (lookN_mem hi)
    obtain ⟨z, hz, hzd⟩ := ht.zero
    split at hv
    · rename_i n et ha
      split at hv
      · rename_i ie hie
        rw [Option.map_eq_some_iff] at hv
        obtain ⟨cs, hcs, rfl⟩ := hv
        obtain ⟨cells, h4, h5⟩ := fill_ok (j := j) parts _ cs _ z.cells hcs (hzd ρ j) h1 h2
        refine ⟨.agg cells, by simp [V.den, h5], ?_⟩
        have hs := (hT _ _ (lookN_mem hie)).size
        rw [hx]
        simp [Instr.build, Sem.run_bind, hz, run_underlying (ht.arr n et ha), hs, h3, h4]
      · cases hv
    · rename_i ha
      split at hv
      · rename_i hagg
        split at hv
        · rename_i pl hpl
          rw [Option.map_eq_some_iff] at hv
          obtain ⟨cs, hcs, rfl⟩ := hv
          obtain ⟨cells, h4, h5⟩ := fill_ok (j := j) parts _ cs _ z.cells hcs (hzd ρ j) h1 h2
          refine ⟨.agg cells, by simp [V.den, h5], ?_⟩
          obtain ⟨fs, hfs, hfl⟩ := ht.str hagg ha
          have hm := placesOf_ok hT fs.toList i.fields pl hfl hpl w
          have hm' : (fs.mapM (m := Sem) fun f => do pure (f.offset, ← sizeOf f.type)).run P w = .ok pl.toArray w := by
            rw [Array.mapM_eq_mapM_toList]
            rw [show (List.toArray <$> List.mapM (fun f => (do pure (f.offset, ← sizeOf f.type) : Sem (Nat × Nat))) fs.toList : Sem (Array (Nat × Nat))) = (do let l ← List.mapM (fun f => (do pure (f.offset, ← sizeOf f.type) : Sem (Nat × Nat))) fs.toList; pure l.toArray) from rfl]
            rw [Sem.run_bind, hm]
            rfl
          have h6 : (fun m : Nat => pl.toArray[m]?) = fun m : Nat => pl[m]? := by funext m; simp
          rw [hx]
          simp only [Instr.build, Sem.run_bind, hz, run_underlying hfs, Result.andThen_ok, hm', h3, h6, h4, Sem.run_pure]
        · cases hv
      · cases hv
  · cases hv

/-- All kinds of operations. -/
theorem opK_ok (hT : ∀ t i, (t, i) ∈ cx.ty → TIok P t i) (hS : ∀ s ∈ cx.sm, SmOk P sp s) (hkeys : ∀ s ∈ cx.sm, ∀ s' ∈ cx.sm, s.key = s'.key → s = s') {kw : Kw} (h : (opK cx ev ld nid o.op kw k).holds sp ρ G) (hg : Good sp cx.sm ρ kw) : Sound P sp ρ G cx ev ld nid o k := by
  cases hop : o.op <;> rw [hop] at h <;> simp only [opK] at h
  case move x =>
    split at h
    · rename_i v hv; exact snd_move (.inl hop) hv h hg
    · exact h.elim
  case assign x =>
    split at h
    · rename_i v hv; exact snd_move (.inr hop) hv h hg
    · exact h.elim
  case alloc t =>
    split at h
    · rename_i i hi; exact snd_alloc hT hop hi h hg
    · exact h.elim
  case box t x =>
    split at h
    · rename_i v hv
      split at h
      · rename_i hf; exact snd_box hop hv hf h hg
      · exact h.elim
    · exact h.elim
  case load t x =>
    split at h
    · rename_i b off i hx hi
      split at h
      · rename_i hagg
        split at h
        · rename_i cs hcs; exact snd_load_row hT hop hx hi hagg hcs h hg
        · exact h.elim
      · rename_i hagg
        split at h
        · rename_i c hc; exact snd_load_one hT hop hx hi hagg hc h hg
        · exact h.elim
    · exact h.elim
  case store t x y =>
    split at h
    · rename_i b off v i hx hy hi
      split at h
      · rename_i hq
        simp only [Bool.and_eq_true] at hq
        exact snd_store hT hop hx hy hi hq.1 hq.2.1 hq.2.2 h hg
      · exact h.elim
    · exact h.elim
  case nilCheck x =>
    split at h
    · rename_i b off hx; exact snd_nilCheck hop hx (.inl ⟨b, off, rfl⟩) h hg
    · rename_i g hx; exact snd_nilCheck hop hx (.inr ⟨g, rfl⟩) h hg
    · exact h.elim
    · exact h.elim
  case binOp op xt x y yt =>
    split at h
    · rename_i v u hx hy; exact snd_bin hT hop hx hy h hg
    · exact h.elim
  case unOp op t x =>
    split at h
    · rename_i e hx; exact snd_un hop hx h hg
    · rename_i kd e hx; exact snd_un hop hx h hg
    · rename_i kd e hx; exact snd_un hop hx h hg
    · exact h.elim
  case convert s d x =>
    split at h
    · rename_i k0 e i is hx hi his
      split at h
      · rename_i kd hk; exact snd_conv hT hop hx hi his hk h hg
      · exact h.elim
    · exact h.elim
  case fieldAddr s x f =>
    split at h
    · rename_i b off i hx hi
      split at h
      · rename_i fo ft hf; exact snd_fieldAddr hT hop hx hi hf h hg
      · exact h.elim
    · exact h.elim
  case field s x f =>
    split at h
    · rename_i cs i hx hi
      split at h
      · rename_i fo ft hf
        split at h
        · rename_i v hv; exact snd_field hT hop hx hi hf hv h hg
        · exact h.elim
      · exact h.elim
    · exact h.elim
  case indexAddr t x y =>
    split at h
    · rename_i b off k0 e i hx hy hi
      split at h
      · rename_i n et ha
        split at h
        · rename_i ie hie; exact snd_indexAddr hT hop hx hy hi ha hie h hg
        · exact h.elim
      · exact h.elim
    · exact h.elim
  case index t x y =>
    split at h
    · rename_i cs k0 e i hx hy hi
      split at h
      · rename_i n et ha
        split at h
        · rename_i ie hie; exact snd_index hT hop hx hy hi ha hie h hg
        · exact h.elim
      · exact h.elim
    · exact h.elim
  case pick c x y =>
    split at h
    · rename_i e u v hc hx hy; exact snd_pick hop hc hx hy h hg
    · exact h.elim
  case build t ps =>
    split at h
    · rename_i parts hps
      split at h
      · rename_i v hv; exact snd_build hT hop hps hv h hg
      · exact h.elim
    · exact h.elim
  case extract x n =>
    split at h
    · rename_i vs hx
      split at h
      · rename_i cs hp; exact snd_extract hop hx hp (.inl ⟨cs, rfl, rfl⟩) h hg
      · rename_i c hp; exact snd_extract hop hx hp (.inr ⟨c, rfl, rfl⟩) h hg
      · exact h.elim
    · exact h.elim
  case call c =>
    split at h
    · rename_i f hc
      split at h
      · rename_i g args hf hl; exact snd_call hS hkeys hop hc hf hl h hg
      · exact h.elim
    · rename_i hc
      split at h
      · rename_i k0 e l hl
        split at h
        · rename_i e' he; exact snd_mm false hop hc hl he h hg
        · exact h.elim
      · exact h.elim
    · rename_i hc
      split at h
      · rename_i k0 e l hl
        split at h
        · rename_i e' he; exact snd_mm true hop hc hl he h hg
        · exact h.elim
      · exact h.elim
    · exact h.elim
  all_goals exact h.elim
end
end Go.Proofs.Ytcngfmhhaleoaaa

/- States of a symbolic run, what they say of a frame and a world, and that an operation leads from one to the next. Nothing of the program is in here. -/
set_option linter.unusedVariables false
set_option linter.unusedSimpArgs false
namespace Go.Proofs.Ytcngfmhhaleoaaa
open Go.RowKit

structure FS where
  tmp : Nat → V
  box : Nat → Option (List C × Nat)
theorem FS.ext' {F F' : FS} (h1 : ∀ t, F.tmp t = F'.tmp t) (h2 : ∀ b, F.box b = F'.box b) : F = F' := by
  cases F; cases F'
  simp only [FS.mk.injEq]
  exact ⟨funext h1, funext h2⟩

def FS.put (F : FS) (dst : Option Nat) (v : V) : FS := { F with tmp := fun t => if dst = some t then v else F.tmp t }
def FS.new (F : FS) (nid : Nat) (x : List C × Nat) : FS := { F with box := fun b => if b = nid then some x else F.box b }
def FS.wr (F : FS) (p : Nat × Nat × C) : FS := { F with box := fun b => if b = p.1 then (F.box b).map (fun x => (x.1.set p.2.1 p.2.2, x.2)) else F.box b }
def FS.wrs (F : FS) (l : List (Nat × Nat × C)) : FS := l.foldl FS.wr F
def FS.app (F : FS) (dst : Option Nat) (nid : Nat) (eff : Eff) : FS :=
  (match eff.al with | some x => F.new nid x | none => F.wrs eff.wr).put dst eff.val

def evF (F : FS) (n : Nat) : Operand → Option V
  | .tmp t => if t < n then some (F.tmp t) else none
  | .const v => ofValue v
  | .global _ => none
  | .func f => some (.one (.fn f))
def ldF (F : FS) (b o : Nat) : Option C := (F.box b).bind fun x => x.1[o]?

structure Rel (ρ : Env) (n : Nat) (W0 : World) (F : FS) (j : Nat → Option Nat) (a : Act) (w : World) : Prop where
  defers : a.defers = []
  size : a.tmps.size = n
  tmp : ∀ t, t < n → ∃ v, a.tmps[t]? = some v ∧ (F.tmp t).den ρ j = some v
  box : ∀ b cs ty, F.box b = some (cs, ty) → ∃ k vs, j b = some k ∧ W0.heap.size ≤ k ∧ denL ρ j cs = some vs ∧ w.heap[k]? = some (.cells vs.toArray ty (0, 0))
  nob : ∀ b, F.box b = none → j b = none
  inj : ∀ b b' k, j b = some k → j b' = some k → b = b'
  ext : Ext W0 w

section
variable {P : Program} {ρ : Env} {n : Nat} {W0 : World} {F : FS} {j : Nat → Option Nat} {a : Act} {w : World}

theorem Rel.lt (h : Rel ρ n W0 F j a w) {b k : Nat} (hb : j b = some k) : ∃ cs ty vs, F.box b = some (cs, ty) ∧ W0.heap.size ≤ k ∧ denL ρ j cs = some vs ∧ w.heap[k]? = some (.cells vs.toArray ty (0, 0)) ∧ k < w.heap.size := by
  cases hF : F.box b with
  | none => rw [h.nob b hF] at hb; cases hb
  | some x =>
    obtain ⟨cs, ty⟩ := x
    obtain ⟨k', vs, h1, h2, h3, h4⟩ := h.box b cs ty hF
    rw [hb] at h1; cases h1
    refine ⟨cs, ty, vs, rfl, h2, h3, h4, ?_⟩
    rcases Nat.lt_or_ge k w.heap.size with hlt | hge
    · exact hlt
    · rw [Array.getElem?_eq_none hge] at h4; cases h4

theorem cell_row {k o ty : Nat} {vs : List Value} (h : w.heap[k]? = some (.cells vs.toArray ty (0, 0))) : w.cell? ⟨k, o, none⟩ = vs[o]? := by
  simp [World.cell?, h]
theorem frozen_row {k o ty : Nat} {vs : List Value} (h : w.heap[k]? = some (.cells vs.toArray ty (0, 0))) : w.frozen? ⟨k, o, none⟩ = false := by
  simp [World.frozen?, h]

theorem Rel.eval (h : Rel ρ n W0 F j a w) {x : Operand} {v : V} (hx : evF F n x = some v) : v.den ρ j = some (a.eval x) := by
  cases x with
  | tmp t =>
    simp only [evF] at hx
    split at hx
    · rename_i ht
      cases hx
      obtain ⟨u, h1, h2⟩ := h.tmp t ht
      rw [h2]
      simp [Act.eval, Array.getD_eq_getD_getElem?, h1]
    · cases hx
  | const v0 => exact ofValue_ok hx ρ j
  | global g => cases hx
  | func f => cases hx; rfl

/-- A call: more blocks. -/
theorem Rel.more (h : Rel ρ n W0 F j a w) {w1 : World} (hx : Ext w w1) : Rel ρ n W0 F j a w1 where
  defers := h.defers
  size := h.size
  tmp := h.tmp
  box b cs ty hF := by
    obtain ⟨k, vs, h1, h2, h3, h4⟩ := h.box b cs ty hF
    obtain ⟨_, _, _, _, _, _, _, hlt⟩ := h.lt h1
    exact ⟨k, vs, h1, h2, h3, by rw [hx.block k hlt]; exact h4⟩
  nob := h.nob
  inj := h.inj
  ext := h.ext.trans hx

theorem Rel.put (h : Rel ρ n W0 F j a w) {dst : Option Nat} {v : V} {u : Value} (hv : v.den ρ j = some u) (hd : ∀ d, dst = some d → d < n) : Rel ρ n W0 (F.put dst v) j (a.put dst u) w where
  defers := by cases dst <;> simp [Act.put, h.defers]
  size := by cases dst <;> simp [Act.put, h.size]
  tmp t ht := by
    cases dst with
    | none => simpa [FS.put, Act.put] using h.tmp t ht
    | some d =>
      by_cases hdt : d = t
      · subst hdt
        exact ⟨u, by simp [Act.put, Array.getElem?_setIfInBounds, h.size, ht], by simp [FS.put, hv]⟩
      · obtain ⟨x, h1, h2⟩ := h.tmp t ht
        exact ⟨x, by simp [Act.put, Array.getElem?_setIfInBounds, hdt, h1], by simp [FS.put, hdt, h2]⟩
  box := h.box
  nob := h.nob
  inj := h.inj
  ext := h.ext

theorem Rel.new (h : Rel ρ n W0 F j a w) {nid ty : Nat} {cs : List C} {vs : List Value} (hd : denL ρ j cs = some vs) (hn : F.box nid = none) :
    Rel ρ n W0 (F.new nid (cs, ty)) (fun b => if b = nid then some w.heap.size else j b) a (w.alloc (.cells vs.toArray ty)) := by
  have hs : Sub j (fun b => if b = nid then some w.heap.size else j b) := fun b k hb => by
    have : b ≠ nid := fun e => by rw [e, h.nob nid hn] at hb; cases hb
    simp [this, hb]
  refine ⟨h.defers, h.size, fun t ht => ?_, fun b cs' ty' hF => ?_, fun b hF => ?_, fun b b' k h1 h2 => ?_, h.ext.alloc _⟩
  · obtain ⟨v, h1, h2⟩ := h.tmp t ht
    exact ⟨v, h1, V.den_sub hs h2⟩
  · by_cases hb : b = nid
    · simp only [FS.new, hb, if_true, Option.some.injEq, Prod.mk.injEq] at hF
      obtain ⟨rfl, rfl⟩ := hF
      exact ⟨w.heap.size, vs, by simp [hb], h.ext.size, denL_sub hs hd, by exact heap_alloc_new _ _⟩
    · simp only [FS.new, hb, if_false] at hF
      obtain ⟨k, us, h1, h2, h3, h4⟩ := h.box b cs' ty' hF
      obtain ⟨_, _, _, _, _, _, _, hlt⟩ := h.lt h1
      refine ⟨k, us, by simp [hb, h1], h2, denL_sub hs h3, ?_⟩
      simp only [World.alloc]
      rw [Array.getElem?_push_lt hlt, ← h4, Array.getElem?_eq_getElem hlt]
  · by_cases hb : b = nid
    · simp [FS.new, hb] at hF
    · simp only [FS.new, hb, if_false] at hF
      simp [hb, h.nob b hF]
  · by_cases hb : b = nid <;> by_cases hb' : b' = nid <;> simp only [hb, hb', if_true, if_false] at h1 h2
    · rw [hb, hb']
    · obtain ⟨_, _, _, _, _, _, _, hlt⟩ := h.lt h2
      cases h1; omega
    · obtain ⟨_, _, _, _, _, _, _, hlt⟩ := h.lt h1
      cases h2; omega
    · exact h.inj b b' k h1 h2

theorem Rel.wr1 (h : Rel ρ n W0 F j a w) {b o : Nat} {c : C} {k : Nat} {v : Value} (hk : j b = some k) (hv : c.den ρ j = some v) : Rel ρ n W0 (F.wr (b, o, c)) j a (w.setCell ⟨k, o, none⟩ v) := by
  obtain ⟨cs, ty, vs, hF, hge, hd, hh, hlt⟩ := h.lt hk
  refine ⟨h.defers, h.size, h.tmp, fun b' cs' ty' hF' => ?_, fun b' hF' => ?_, h.inj, h.ext.setCell hge v⟩
  · by_cases hb : b' = b
    · subst hb
      simp only [FS.wr, if_true, hF, Option.map_some, Option.some.injEq, Prod.mk.injEq] at hF'
      obtain ⟨rfl, rfl⟩ := hF'
      refine ⟨k, vs.set o v, hk, hge, denL_set hd o c v hv, ?_⟩
      have := heap_setCell_same w k o vs.toArray ty v hh
      simpa using this
    · simp only [FS.wr, hb, if_false] at hF'
      obtain ⟨k', us, h1, h2, h3, h4⟩ := h.box b' cs' ty' hF'
      refine ⟨k', us, h1, h2, h3, ?_⟩
      rw [heap_setCell_other w ⟨k, o, none⟩ k' v (fun e => hb (h.inj b' b k (by rw [h1, e]) hk))]
      exact h4
  · by_cases hb : b' = b
    · subst hb; simp [FS.wr, hF] at hF'
    · simp only [FS.wr, hb, if_false] at hF'
      exact h.nob b' hF'
theorem Rel.wrs : ∀ {l : List (Nat × Nat × C)} {F : FS} {w w' : World}, Rel ρ n W0 F j a w → Writes ρ j l w w' → Rel ρ n W0 (F.wrs l) j a w'
  | [], F, w, w', h, hw => by
    have e : w' = w := hw
    subst e
    exact h
  | (b, o, c) :: l, F, w, w', h, hw => by
    obtain ⟨k, v, hk, hv, hw'⟩ := hw
    exact Rel.wrs (F := F.wr (b, o, c)) (h.wr1 hk hv) hw'

/-- What an operation must find as the run has it. -/
structure Sees (n : Nat) (ev : Operand → Option V) (ld : Nat → Nat → Option C) (nid : Nat) (o : Oper) (eff : Eff) (F : FS) : Prop where
  ev : ∀ x ∈ o.op.operands.toList, ∀ v, ev x = some v → evF F n x = some v
  rd : ∀ p ∈ eff.rd, ∀ c, ld p.1 p.2 = some c → ldF F p.1 p.2 = some c
  wr : ∀ p ∈ eff.wr, ∃ c, ldF F p.1 p.2.1 = some c
  nw : eff.al ≠ none → F.box nid = none

theorem ldF_cell (h : Rel ρ n W0 F j a w) {b o : Nat} {c : C} (hc : ldF F b o = some c) : ∃ k v, j b = some k ∧ c.den ρ j = some v ∧ w.cell? ⟨k, o, none⟩ = some v ∧ w.frozen? ⟨k, o, none⟩ = false := by
  simp only [ldF, Option.bind_eq_some_iff] at hc
  obtain ⟨x, hx, hc⟩ := hc
  obtain ⟨cs, ty⟩ := x
  obtain ⟨k, vs, h1, h2, h3, h4⟩ := h.box b cs ty hx
  obtain ⟨v, hv, hd⟩ := denL_get h3 o c hc
  exact ⟨k, v, h1, hd, by rw [cell_row h4]; exact hv, frozen_row h4⟩

theorem op_step (h : Rel ρ n W0 F j a w) {ev : Operand → Option V} {ld : Nat → Nat → Option C} {nid : Nat} {o : Oper} {eff : Eff} (hok : OpOk P ρ ev ld nid o eff) (hs : Sees n ev ld nid o eff F) (hd : ∀ d, o.dst = some d → d < n)
    {K : Act → World → Prop} {Q : Exit → Act → World → Prop} (hK : ∀ j' a' w', Rel ρ n W0 (F.app o.dst nid eff) j' a' w' → K a' w') : o.wp P a w K Q := by
  refine hok j a w (fun x hx v hv => h.eval (hs.ev x hx v hv)) (fun p hp c hc => ?_) (fun p hp => ?_) K Q (fun v j' w' hv hdoes => ?_)
  · obtain ⟨k, v, h1, h2, h3, _⟩ := ldF_cell h (hs.rd p hp c hc)
    exact ⟨k, v, h1, h2, h3⟩
  · obtain ⟨c, hc⟩ := hs.wr p hp
    obtain ⟨k, v, h1, _, h3, h4⟩ := ldF_cell h hc
    exact ⟨k, v, h1, h3, h4⟩
  · unfold Does at hdoes
    refine hK j' _ w' ?_
    unfold FS.app
    split at hdoes
    · rename_i cs ty hal
      obtain ⟨vs, h1, rfl, rfl⟩ := hdoes
      rw [hal]
      exact (h.new h1 (hs.nw (by rw [hal]; simp))).put hv hd
    · rename_i hal
      obtain ⟨rfl, w1, h1, h2⟩ := hdoes
      rw [hal]
      exact ((h.more h1).wrs h2).put hv hd
end
end Go.Proofs.Ytcngfmhhaleoaaa

/- A region of operations in whatever order it draws: the run in the order of the text tells what every other one comes to. Nothing of the program is in here. -/
set_option linter.unusedVariables false
set_option linter.unusedSimpArgs false
namespace Go.Proofs.Ytcngfmhhaleoaaa
open Go.RowKit

structure Rec where
  o : Oper
  want : Bool
  nid : Nat
  eff : Eff

def FS.rec' (F : FS) (r : Rec) : FS := F.app r.o.dst r.nid r.eff
def opTs : List Operand → List Nat
  | [] => []
  | .tmp t :: l => t :: opTs l
  | _ :: l => opTs l
theorem opTs_mem {t : Nat} : ∀ {l : List Operand}, .tmp t ∈ l → t ∈ opTs l
  | x :: l, h => by
    rcases List.mem_cons.1 h with rfl | h
    · exact List.mem_cons_self
    · have ih := opTs_mem h
      cases x with
      | tmp u => exact List.mem_cons_of_mem _ ih
      | _ => exact ih
def gTs (ops : Array Oper) (o : Oper) : List Nat :=
  match o.guard with
  | none => []
  | some (g, _) => ((ops[g]?).bind (·.dst)).toList
def Rec.ts (ops : Array Oper) (r : Rec) : List Nat := opTs r.o.op.operands.toList ++ gTs ops r.o

def hasN (t : Nat) : List Nat → Bool
  | [] => false
  | x :: l => Nat.beq x t || hasN t l
def hasP (b o : Nat) : List (Nat × Nat) → Bool
  | [] => false
  | (x, y) :: l => (Nat.beq x b && Nat.beq y o) || hasP b o l
theorem hasN_iff {t : Nat} {l : List Nat} : hasN t l = false ↔ t ∉ l := by
  induction l with
  | nil => simp [hasN]
  | cons x l ih =>
    simp only [hasN, Bool.or_eq_false_iff, ih, List.mem_cons, not_or]
    constructor
    · rintro ⟨h1, h2⟩
      exact ⟨fun e => by rw [e] at h1; simp at h1, h2⟩
    · rintro ⟨h1, h2⟩
      refine ⟨?_, h2⟩
      cases h : x.beq t
      · rfl
      · exact absurd (Nat.eq_of_beq_eq_true h).symm h1
theorem hasP_iff {b o : Nat} {l : List (Nat × Nat)} : hasP b o l = false ↔ (b, o) ∉ l := by
  induction l with
  | nil => simp [hasP]
  | cons x l ih =>
    obtain ⟨x, y⟩ := x
    simp only [hasP, Bool.or_eq_false_iff, ih, List.mem_cons, not_or, Bool.and_eq_false_iff]
    constructor
    · rintro ⟨h1, h2⟩
      refine ⟨fun e => ?_, h2⟩
      cases e
      rcases h1 with h1 | h1 <;> simp at h1
    · rintro ⟨h1, h2⟩
      refine ⟨?_, h2⟩
      cases h : x.beq b
      · exact .inl rfl
      · cases h' : y.beq o
        · exact .inr rfl
        · exact absurd (by rw [Nat.eq_of_beq_eq_true h, Nat.eq_of_beq_eq_true h']) h1

def wrC (l : List (Nat × Nat × C)) : List (Nat × Nat) := l.map fun p => (p.1, p.2.1)
def Rec.touch (r : Rec) : List Nat := r.eff.rd.map (·.1) ++ r.eff.wr.map (·.1)
def Rec.alid (r : Rec) : List Nat := match r.eff.al with | some _ => [r.nid] | none => []
/-- Neither minds whether the other one has been. -/
def indep (ops : Array Oper) (r s : Rec) : Bool :=
  (r.o.dst.toList.all fun d => !hasN d (s.ts ops) && !hasN d s.o.dst.toList) && (s.o.dst.toList.all fun d => !hasN d (r.ts ops)) &&
  ((wrC r.eff.wr).all fun p => !hasP p.1 p.2 s.eff.rd && !hasP p.1 p.2 (wrC s.eff.wr)) && ((wrC s.eff.wr).all fun p => !hasP p.1 p.2 r.eff.rd) &&
  (r.alid.all fun b => !hasN b s.touch && !hasN b s.alid) && (s.alid.all fun b => !hasN b r.touch)

structure Indep (ops : Array Oper) (r s : Rec) : Prop where
  d1 : ∀ d, r.o.dst = some d → d ∉ s.ts ops
  d2 : ∀ d, r.o.dst = some d → s.o.dst ≠ some d
  d3 : ∀ d, s.o.dst = some d → d ∉ r.ts ops
  w1 : ∀ p ∈ r.eff.wr, (p.1, p.2.1) ∉ s.eff.rd
  w2 : ∀ p ∈ r.eff.wr, ∀ q ∈ s.eff.wr, (p.1, p.2.1) ≠ (q.1, q.2.1)
  w3 : ∀ p ∈ s.eff.wr, (p.1, p.2.1) ∉ r.eff.rd
  a1 : r.eff.al ≠ none → r.nid ∉ s.touch
  a2 : r.eff.al ≠ none → s.eff.al ≠ none → r.nid ≠ s.nid
  a3 : s.eff.al ≠ none → s.nid ∉ r.touch

theorem indep_ok {ops : Array Oper} {r s : Rec} (h : indep ops r s = true) : Indep ops r s := by
  simp only [indep, Bool.and_eq_true, List.all_eq_true, Bool.not_eq_true', hasN_iff, hasP_iff, Option.mem_toList] at h
  obtain ⟨⟨⟨⟨⟨h1, h2⟩, h3⟩, h4⟩, h5⟩, h6⟩ := h
  have hal : ∀ {x : Rec}, x.eff.al ≠ none → x.nid ∈ x.alid := fun {x} hx => by
    unfold Rec.alid
    split
    · simp
    · rename_i hn; exact absurd hn hx
  refine ⟨fun d hd => (h1 d hd).1, fun d hd => (h1 d hd).2, fun d hd => h2 d hd, fun p hp => (h3 _ (List.mem_map.2 ⟨p, hp, rfl⟩)).1, fun p hp q hq e => (h3 _ (List.mem_map.2 ⟨p, hp, rfl⟩)).2 (List.mem_map.2 ⟨q, hq, e.symm⟩),
    fun p hp => h4 _ (List.mem_map.2 ⟨p, hp, rfl⟩), fun hx => (h5 _ (hal hx)).1, fun hx hy e => (h5 _ (hal hx)).2 (e ▸ hal hy), fun hx => h6 _ (hal hx)⟩
theorem Indep.symm {ops : Array Oper} {r s : Rec} (h : Indep ops r s) : Indep ops s r :=
  ⟨h.d3, fun d hd e => h.d2 d e hd, h.d1, h.w3, fun p hp q hq e => h.w2 q hq p hp e.symm, h.w1, h.a3, fun hx hy e => h.a2 hy hx e.symm, h.a1⟩

/-! ### Cells behind writes -/
theorem ldF_wr (F : FS) (p : Nat × Nat × C) (b o : Nat) : ldF (F.wr p) b o = if b = p.1 ∧ o = p.2.1 then (ldF F b o).map (fun _ => p.2.2) else ldF F b o := by
  unfold ldF FS.wr
  by_cases hb : b = p.1
  · simp only [hb, if_true, true_and]
    cases F.box p.1 with
    | none => simp
    | some x =>
      simp only [Option.map_some, Option.bind_some, List.getElem?_set]
      by_cases ho : o = p.2.1
      · subst ho
        simp only [if_true]
        split
        · rename_i hlt
          simp [List.getElem?_eq_getElem hlt]
        · rename_i hlt
          simp [List.getElem?_eq_none (Nat.le_of_not_lt hlt)]
      · rw [if_neg (fun e : p.2.1 = o => ho e.symm), if_neg ho]
  · simp [hb]
theorem ldF_wrs_other : ∀ {l : List (Nat × Nat × C)} {F : FS} {b o : Nat}, (∀ p ∈ l, (p.1, p.2.1) ≠ (b, o)) → ldF (F.wrs l) b o = ldF F b o
  | [], _, _, _, _ => rfl
  | p :: l, F, b, o, h => by
    have h1 := ldF_wrs_other (l := l) (F := F.wr p) (b := b) (o := o) (fun q hq => h q (List.mem_cons_of_mem _ hq))
    have h2 := h p List.mem_cons_self
    show ldF ((F.wr p).wrs l) b o = _
    rw [h1, ldF_wr, if_neg (fun e => h2 (by rw [e.1, e.2]))]
theorem ldF_wrs_congr : ∀ {l : List (Nat × Nat × C)} {F F' : FS} {b o : Nat}, ldF F b o = ldF F' b o → ldF (F.wrs l) b o = ldF (F'.wrs l) b o
  | [], _, _, _, _, h => h
  | p :: l, F, F', b, o, h => by
    show ldF ((F.wr p).wrs l) b o = ldF ((F'.wr p).wrs l) b o
    exact ldF_wrs_congr (by rw [ldF_wr, ldF_wr, h])
theorem ldF_wrs_some : ∀ {l : List (Nat × Nat × C)} {F : FS} {b o : Nat}, (ldF (F.wrs l) b o).isSome = (ldF F b o).isSome
  | [], _, _, _ => rfl
  | p :: l, F, b, o => by
    have h1 : (ldF ((F.wr p).wrs l) b o).isSome = _ := ldF_wrs_some (l := l)
    show (ldF ((F.wr p).wrs l) b o).isSome = _
    rw [h1, ldF_wr]
    split <;> simp
theorem ldF_new (F : FS) (nid : Nat) (x : List C × Nat) (b o : Nat) : ldF (F.new nid x) b o = if b = nid then x.1[o]? else ldF F b o := by
  unfold ldF FS.new
  by_cases h : b = nid <;> simp [h]
theorem ldF_put (F : FS) (d : Option Nat) (v : V) (b o : Nat) : ldF (F.put d v) b o = ldF F b o := rfl
theorem box_wrs_none : ∀ {l : List (Nat × Nat × C)} {F : FS} {b : Nat}, (F.wrs l).box b = none ↔ F.box b = none
  | [], _, _ => Iff.rfl
  | p :: l, F, b => by
    have h1 : ((F.wr p).wrs l).box b = none ↔ _ := box_wrs_none (l := l)
    show ((F.wr p).wrs l).box b = none ↔ _
    rw [h1]
    unfold FS.wr
    by_cases h : b = p.1 <;> simp [h]

/-! ### Agreement -/
structure Agree (ops : Array Oper) (r : Rec) (F F' : FS) : Prop where
  t : ∀ t ∈ r.ts ops, F.tmp t = F'.tmp t
  rd : ∀ p ∈ r.eff.rd, ldF F p.1 p.2 = ldF F' p.1 p.2
  wr : ∀ p ∈ r.eff.wr, (ldF F p.1 p.2.1).isSome = (ldF F' p.1 p.2.1).isSome
  nw : r.eff.al ≠ none → (F.box r.nid = none ↔ F'.box r.nid = none)

theorem tmp_app (F : FS) (d : Option Nat) (nid : Nat) (eff : Eff) (t : Nat) : (F.app d nid eff).tmp t = if d = some t then eff.val else F.tmp t := by
  unfold FS.app FS.put
  dsimp only
  by_cases h : d = some t
  · simp [h]
  · simp only [h, if_false]
    split
    · rfl
    · have : ∀ (l : List (Nat × Nat × C)) (F : FS), (F.wrs l).tmp = F.tmp := by
        intro l
        induction l with
        | nil => intro F; rfl
        | cons p l ih => intro F; exact ih (F.wr p)
      rw [this]
theorem ldF_app (F : FS) (d : Option Nat) (nid : Nat) (eff : Eff) (b o : Nat) : ldF (F.app d nid eff) b o = match eff.al with | some x => if b = nid then x.1[o]? else ldF F b o | none => ldF (F.wrs eff.wr) b o := by
  unfold FS.app
  rw [ldF_put]
  cases eff.al with
  | some x => exact ldF_new F nid x b o
  | none => rfl
theorem box_app_none (F : FS) (d : Option Nat) (nid : Nat) (eff : Eff) (b : Nat) : (F.app d nid eff).box b = none ↔ match eff.al with | some _ => b ≠ nid ∧ F.box b = none | none => F.box b = none := by
  unfold FS.app FS.put
  dsimp only
  cases eff.al with
  | some x =>
    unfold FS.new
    by_cases h : b = nid <;> simp [h]
  | none => exact box_wrs_none

theorem Agree.refl (ops : Array Oper) (r : Rec) (F : FS) : Agree ops r F F := ⟨fun _ _ => rfl, fun _ _ => rfl, fun _ _ => rfl, fun _ => Iff.rfl⟩
theorem Agree.trans {ops : Array Oper} {r : Rec} {F F' F'' : FS} (h : Agree ops r F F') (h' : Agree ops r F' F'') : Agree ops r F F'' :=
  ⟨fun t ht => (h.t t ht).trans (h'.t t ht), fun p hp => (h.rd p hp).trans (h'.rd p hp), fun p hp => (h.wr p hp).trans (h'.wr p hp), fun hx => (h.nw hx).trans (h'.nw hx)⟩
theorem Agree.symm {ops : Array Oper} {r : Rec} {F F' : FS} (h : Agree ops r F F') : Agree ops r F' F :=
  ⟨fun t ht => (h.t t ht).symm, fun p hp => (h.rd p hp).symm, fun p hp => (h.wr p hp).symm, fun hx => (h.nw hx).symm⟩
theorem Agree.congr {ops : Array Oper} {r s : Rec} {F F' : FS} (h : Agree ops r F F') : Agree ops r (F.rec' s) (F'.rec' s) := by
  unfold FS.rec'
  refine ⟨fun t ht => by rw [tmp_app, tmp_app, h.t t ht], fun p hp => ?_, fun p hp => ?_, fun hx => ?_⟩
  · rw [ldF_app, ldF_app]
    split
    · rw [h.rd p hp]
    · exact ldF_wrs_congr (h.rd p hp)
  · rw [ldF_app, ldF_app]
    split
    · split
      · rfl
      · exact h.wr p hp
    · rw [ldF_wrs_some, ldF_wrs_some]; exact h.wr p hp
  · rw [box_app_none, box_app_none]
    split
    · rw [h.nw hx]
    · exact h.nw hx
theorem Agree.step {ops : Array Oper} {r s : Rec} (hi : Indep ops s r) (F : FS) : Agree ops r F (F.rec' s) := by
  unfold FS.rec'
  refine ⟨fun t ht => ?_, fun p hp => ?_, fun p hp => ?_, fun hx => ?_⟩
  · rw [tmp_app, if_neg (fun e => hi.d1 t e ht)]
  · rw [ldF_app]
    split
    · rename_i x hal
      rw [if_neg (fun e => hi.a1 (by rw [hal]; simp) (by rw [← e]; exact List.mem_append_left _ (List.mem_map.2 ⟨p, hp, rfl⟩)))]
    · exact (ldF_wrs_other (fun q hq e => hi.w1 q hq (by rw [e]; exact hp))).symm
  · rw [ldF_app]
    split
    · rename_i x hal
      rw [if_neg (fun e => hi.a1 (by rw [hal]; simp) (by rw [← e]; exact List.mem_append_right _ (List.mem_map.2 ⟨p, hp, rfl⟩)))]
    · rw [ldF_wrs_some]
  · rw [box_app_none]
    split
    · rename_i x hal
      constructor
      · intro h; exact ⟨fun e => hi.a2 (by rw [hal]; simp) hx e.symm, h⟩
      · exact fun h => h.2
    · exact Iff.rfl

/-! ### Two that mind each other not go either way -/
theorem wr_comm (F : FS) (p q : Nat × Nat × C) (h : (p.1, p.2.1) ≠ (q.1, q.2.1)) : (F.wr p).wr q = (F.wr q).wr p := by
  refine FS.ext' (fun _ => rfl) (fun b => ?_)
  unfold FS.wr
  dsimp only
  by_cases h1 : b = p.1
  · by_cases h2 : b = q.1
    · have hpq : p.1 = q.1 := h1.symm.trans h2
      have ho : p.2.1 ≠ q.2.1 := fun e => h (by rw [hpq, e])
      simp only [h1, hpq, if_true]
      cases F.box q.1 with
      | none => rfl
      | some x => simp [List.set_comm _ _ ho]
    · simp [h1, h2, show ¬ p.1 = q.1 from fun e => h2 (h1.trans e)]
  · by_cases h2 : b = q.1
    · simp [h1, h2, show ¬ q.1 = p.1 from fun e => h1 (h2.trans e)]
    · simp [h1, h2]
theorem wr_wrs (p : Nat × Nat × C) : ∀ (l : List (Nat × Nat × C)) (F : FS), (∀ q ∈ l, (p.1, p.2.1) ≠ (q.1, q.2.1)) → (F.wr p).wrs l = (F.wrs l).wr p
  | [], _, _ => rfl
  | q :: l, F, h => by
    show ((F.wr p).wr q).wrs l = ((F.wr q).wrs l).wr p
    rw [wr_comm F p q (h q List.mem_cons_self)]
    exact wr_wrs p l (F.wr q) (fun x hx => h x (List.mem_cons_of_mem _ hx))
theorem wrs_wrs : ∀ (l m : List (Nat × Nat × C)) (F : FS), (∀ p ∈ l, ∀ q ∈ m, (p.1, p.2.1) ≠ (q.1, q.2.1)) → (F.wrs l).wrs m = (F.wrs m).wrs l
  | [], _, _, _ => rfl
  | p :: l, m, F, h => by
    show ((F.wr p).wrs l).wrs m = ((F.wrs m).wr p).wrs l
    rw [wrs_wrs l m (F.wr p) (fun x hx => h x (List.mem_cons_of_mem _ hx)), wr_wrs p m F (h p List.mem_cons_self)]
theorem new_wrs (nid : Nat) (x : List C × Nat) : ∀ (l : List (Nat × Nat × C)) (F : FS), (∀ q ∈ l, q.1 ≠ nid) → (F.new nid x).wrs l = (F.wrs l).new nid x
  | [], _, _ => rfl
  | q :: l, F, h => by
    show ((F.new nid x).wr q).wrs l = ((F.wr q).wrs l).new nid x
    have h1 := h q List.mem_cons_self
    have : (F.new nid x).wr q = (F.wr q).new nid x := by
      refine FS.ext' (fun _ => rfl) (fun b => ?_)
      unfold FS.wr FS.new
      dsimp only
      by_cases hb : b = nid
      · simp [hb, show ¬ nid = q.1 from fun e => h1 e.symm]
      · simp [hb]
    rw [this]
    exact new_wrs nid x l (F.wr q) (fun y hy => h y (List.mem_cons_of_mem _ hy))
theorem put_wrs (d : Option Nat) (v : V) : ∀ (l : List (Nat × Nat × C)) (F : FS), (F.put d v).wrs l = (F.wrs l).put d v
  | [], _ => rfl
  | q :: l, F => put_wrs d v l (F.wr q)

theorem rec_comm {ops : Array Oper} {r s : Rec} (h : Indep ops r s) (F : FS) : (F.rec' r).rec' s = (F.rec' s).rec' r := by
  have hp : ∀ F : FS, (F.put r.o.dst r.eff.val).put s.o.dst s.eff.val = (F.put s.o.dst s.eff.val).put r.o.dst r.eff.val := by
    intro F
    refine FS.ext' (fun t => ?_) (fun _ => rfl)
    unfold FS.put
    dsimp only
    by_cases h1 : s.o.dst = some t <;> by_cases h2 : r.o.dst = some t <;> simp [h1, h2]
    exact absurd h1 (h.d2 t h2)
  unfold FS.rec' FS.app
  cases hr : r.eff.al with
  | some x =>
    have hn : ∀ (F : FS) (d : Option Nat) (v : V) nid y, (F.put d v).new nid y = (F.new nid y).put d v := fun _ _ _ _ _ => rfl
    cases hs : s.eff.al with
    | some y =>
      have : ∀ F : FS, (F.new r.nid x).new s.nid y = (F.new s.nid y).new r.nid x := by
        intro F
        refine FS.ext' (fun _ => rfl) (fun b => ?_)
        unfold FS.new
        dsimp only
        have hne := h.a2 (by rw [hr]; simp) (by rw [hs]; simp)
        by_cases h1 : b = s.nid <;> by_cases h2 : b = r.nid <;> simp [h1, h2]
        · exact absurd (h2.symm.trans h1) hne
        · intro e; exact absurd e.symm hne
        · intro e; exact absurd e hne
      simp only [hn, this, hp]
    | none =>
      have hq : ∀ q ∈ s.eff.wr, q.1 ≠ r.nid := fun q hq e => h.a1 (by rw [hr]; simp) (by rw [← e]; exact List.mem_append_right _ (List.mem_map.2 ⟨q, hq, rfl⟩))
      simp only [put_wrs, new_wrs _ _ _ _ hq, hn, hp]
  | none =>
    have hn : ∀ (F : FS) (d : Option Nat) (v : V) nid y, (F.put d v).new nid y = (F.new nid y).put d v := fun _ _ _ _ _ => rfl
    cases hs : s.eff.al with
    | some y =>
      have hq : ∀ q ∈ r.eff.wr, q.1 ≠ s.nid := fun q hq e => h.a3 (by rw [hs]; simp) (by rw [← e]; exact List.mem_append_right _ (List.mem_map.2 ⟨q, hq, rfl⟩))
      simp only [put_wrs, new_wrs _ _ _ _ hq, hn, hp]
    | none => simp only [put_wrs, wrs_wrs _ _ _ h.w2, hp]
end Go.Proofs.Ytcngfmhhaleoaaa

/- A region of operations, in the order of the text or in whatever order it draws. Nothing of the program is in here. -/
set_option linter.unusedVariables false
set_option linter.unusedSimpArgs false
namespace Go.Proofs.Ytcngfmhhaleoaaa
open Go.RowKit

def part (sel : Nat → Bool) : Nat → List Rec → FS → FS
  | _, [], F => F
  | i, r :: l, F => part sel (i + 1) l (if sel i then F.rec' r else F)
def full (l : List Rec) (F : FS) : FS := l.foldl FS.rec' F

section
variable {P : Program} {ρ : Env} {n : Nat} {W0 : World} {ops : Array Oper}

theorem part_append (sel : Nat → Bool) : ∀ (l m : List Rec) (i : Nat) (F : FS), part sel i (l ++ m) F = part sel (i + l.length) m (part sel i l F)
  | [], m, i, F => rfl
  | r :: l, m, i, F => by
    simp only [List.cons_append, part, List.length_cons]
    rw [part_append sel l m (i + 1)]
    congr 1
    omega
theorem part_full {sel : Nat → Bool} : ∀ (l : List Rec) (i : Nat) (F : FS), (∀ m, m < l.length → sel (i + m) = true) → part sel i l F = full l F
  | [], _, _, _ => rfl
  | r :: l, i, F, h => by
    have h0 := h 0 (by simp)
    simp only [Nat.add_zero] at h0
    simp only [part, h0, if_true, full, List.foldl_cons]
    exact part_full l (i + 1) _ (fun m hm => by rw [Nat.add_assoc, Nat.add_comm 1 m]; exact h (m + 1) (by simpa using hm))
theorem part_none {sel : Nat → Bool} : ∀ (l : List Rec) (i : Nat) (F : FS), (∀ m, m < l.length → sel (i + m) = false) → part sel i l F = F
  | [], _, _, _ => rfl
  | r :: l, i, F, h => by
    have h0 := h 0 (by simp)
    simp only [Nat.add_zero] at h0
    simp only [part, h0]
    exact part_none l (i + 1) _ (fun m hm => by rw [Nat.add_assoc, Nat.add_comm 1 m]; exact h (m + 1) (by simpa using hm))
theorem part_congr {sel sel' : Nat → Bool} : ∀ (l : List Rec) (i : Nat) (F : FS), (∀ m, m < l.length → sel (i + m) = sel' (i + m)) → part sel i l F = part sel' i l F
  | [], _, _, _ => rfl
  | r :: l, i, F, h => by
    have h0 := h 0 (by simp)
    simp only [Nat.add_zero] at h0
    simp only [part, h0]
    exact part_congr l (i + 1) _ (fun m hm => by rw [Nat.add_assoc, Nat.add_comm 1 m]; exact h (m + 1) (by simpa using hm))

theorem agree_pre {r : Rec} {sel : Nat → Bool} : ∀ (l : List Rec) (i : Nat) (F F' : FS), Agree ops r F F' → (∀ (m : Nat) x, l[m]? = some x → sel (i + m) = false → Indep ops x r) → Agree ops r (full l F) (part sel i l F')
  | [], _, _, _, h, _ => h
  | x :: l, i, F, F', h, hi => by
    simp only [full, List.foldl_cons, part]
    have tail : ∀ (m : Nat) y, l[m]? = some y → sel (i + 1 + m) = false → Indep ops y r := fun m y hm hs => hi (m + 1) y (by simpa using hm) (by rw [Nat.add_assoc, Nat.add_comm 1 m] at hs; exact hs)
    by_cases hs : sel i = true
    · simp only [hs, if_true]
      exact agree_pre l (i + 1) _ _ h.congr tail
    · simp only [hs]
      exact agree_pre l (i + 1) _ _ (((Agree.step (hi 0 x rfl (by simpa using hs)) F).symm).trans h) tail
theorem agree_post {r : Rec} {sel : Nat → Bool} : ∀ (l : List Rec) (i : Nat) (F F' : FS), Agree ops r F F' → (∀ (m : Nat) x, l[m]? = some x → sel (i + m) = true → Indep ops x r) → Agree ops r F (part sel i l F')
  | [], _, _, _, h, _ => h
  | x :: l, i, F, F', h, hi => by
    simp only [part]
    have tail : ∀ (m : Nat) y, l[m]? = some y → sel (i + 1 + m) = true → Indep ops y r := fun m y hm hs => hi (m + 1) y (by simpa using hm) (by rw [Nat.add_assoc, Nat.add_comm 1 m] at hs; exact hs)
    by_cases hs : sel i = true
    · simp only [hs, if_true]
      exact agree_post l (i + 1) _ _ (h.trans (Agree.step (hi 0 x rfl (by simpa using hs)) F')) tail
    · simp only [hs]
      exact agree_post l (i + 1) _ _ h tail
theorem part_rec {r : Rec} {sel : Nat → Bool} : ∀ (l : List Rec) (i : Nat) (F : FS), (∀ (m : Nat) x, l[m]? = some x → sel (i + m) = true → Indep ops x r) → part sel i l (F.rec' r) = (part sel i l F).rec' r
  | [], _, _, _ => rfl
  | x :: l, i, F, hi => by
    simp only [part]
    have tail : ∀ (m : Nat) y, l[m]? = some y → sel (i + 1 + m) = true → Indep ops y r := fun m y hm hs => hi (m + 1) y (by simpa using hm) (by rw [Nat.add_assoc, Nat.add_comm 1 m] at hs; exact hs)
    by_cases hs : sel i = true
    · simp only [hs, if_true]
      rw [← rec_comm (hi 0 x rfl (by simpa using hs))]
      exact part_rec l (i + 1) _ tail
    · simp only [hs]
      exact part_rec l (i + 1) _ tail

/-- What a record says of its operation, at a state. -/
structure RecOk (P : Program) (ρ : Env) (n : Nat) (ops : Array Oper) (r : Rec) (F : FS) : Prop where
  run : r.want = true → ∃ ev ld, OpOk P ρ ev ld r.nid r.o r.eff ∧ Sees n ev ld r.nid r.o r.eff F
  skip : r.want = false → r.eff = { val := .one .undef }
  guard : match r.o.guard with
    | none => r.want = true
    | some (g, b) => ∃ t, (ops[g]?).bind (·.dst) = some t ∧ t < n ∧ ((∃ e : E, F.tmp t = .one (.bool e) ∧ r.want = (e.B ρ == b)) ∨ (F.tmp t = .one .undef ∧ r.want = false))
  dst : ∀ d, r.o.dst = some d → d < n

theorem RecOk.agree {r : Rec} {F F' : FS} (h : RecOk P ρ n ops r F) (ha : Agree ops r F F') : RecOk P ρ n ops r F' := by
  refine ⟨fun hw => ?_, h.skip, ?_, h.dst⟩
  · obtain ⟨ev, ld, h1, h2⟩ := h.run hw
    refine ⟨ev, ld, h1, ⟨fun x hx v hv => ?_, fun p hp c hc => ?_, fun p hp => ?_, fun hx => (ha.nw hx).1 (h2.nw hx)⟩⟩
    · have h3 := h2.ev x hx v hv
      cases x with
      | tmp t =>
        simp only [evF] at h3 ⊢
        rw [← ha.t t (List.mem_append_left _ (opTs_mem hx))]
        exact h3
      | _ => exact h3
    · rw [← ha.rd p hp]; exact h2.rd p hp c hc
    · obtain ⟨c, hc⟩ := h2.wr p hp
      have := ha.wr p hp
      rw [hc] at this
      exact Option.isSome_iff_exists.1 this.symm
  · have hg := h.guard
    cases hgd : r.o.guard with
    | none => rw [hgd] at hg; exact hg
    | some p =>
      obtain ⟨g, b⟩ := p
      rw [hgd] at hg
      obtain ⟨t, h1, h2, h3⟩ := hg
      refine ⟨t, h1, h2, ?_⟩
      have : F.tmp t = F'.tmp t := ha.t t (List.mem_append_right _ (by simp [gTs, hgd, h1]))
      rw [← this]
      exact h3

theorem yielded_of {j : Nat → Option Nat} {a : Act} {w : World} {F : FS} (h : Rel ρ n W0 F j a w) {g t : Nat} (ht : (ops[g]?).bind (·.dst) = some t) (hn : t < n) :
    (∀ e, F.tmp t = .one (.bool e) → yielded ops a.tmps g = some (e.B ρ)) ∧ (F.tmp t = .one .undef → yielded ops a.tmps g = none) := by
  obtain ⟨v, h1, h2⟩ := h.tmp t hn
  constructor
  · intro e he
    rw [he] at h2
    have := one_bool h2
    subst this
    simp [yielded, ht, h1]
  · intro he
    rw [he] at h2
    have : v = Go.undef := (Option.some.inj h2).symm
    subst this
    simp [yielded, ht, h1, Go.undef]

theorem rec_step {j : Nat → Option Nat} {a : Act} {w : World} {F : FS} (h : Rel ρ n W0 F j a w) {r : Rec} (hr : RecOk P ρ n ops r F) {i : Nat} (hi : ops[i]? = some r.o)
    {K : Act → World → Prop} {Q : Exit → Act → World → Prop} (hK : ∀ j' a' w', Rel ρ n W0 (F.rec' r) j' a' w' → K a' w') : wpOp P ops Q i K a w := by
  have hw : Region.wanted r.o (yielded ops a.tmps) = r.want := by
    have hg := hr.guard
    unfold Region.wanted
    cases hgd : r.o.guard with
    | none => rw [hgd] at hg; exact hg.symm
    | some p =>
      obtain ⟨g, b⟩ := p
      rw [hgd] at hg
      obtain ⟨t, h1, h2, h3⟩ := hg
      obtain ⟨h4, h5⟩ := yielded_of h h1 h2
      rcases h3 with ⟨e, h6, h7⟩ | ⟨h6, h7⟩
      · simp only [h4 e h6, h7]
        cases e.B ρ <;> cases b <;> rfl
      · simp only [h5 h6, h7]
        rfl
  unfold wpOp
  simp only [hi, hw]
  cases hwant : r.want with
  | true =>
    obtain ⟨ev, ld, h1, h2⟩ := hr.run hwant
    exact .inl (op_step h h1 h2 hr.dst hK)
  | false =>
    have he := hr.skip hwant
    refine hK j _ w ?_
    unfold FS.rec' FS.app
    rw [he]
    exact h.put rfl hr.dst

theorem region_seq : ∀ (post pre : List Rec) (F0 : FS), ops.toList = (pre ++ post).map (·.o) → (∀ (m : Nat) r, post[m]? = some r → RecOk P ρ n ops r (full (pre ++ post.take m) F0)) →
    ∀ {Q : Exit → Act → World → Prop} {j : Nat → Option Nat} {a : Act} {w : World}, Rel ρ n W0 (full pre F0) j a w → (∀ j' a' w', Rel ρ n W0 (full (pre ++ post) F0) j' a' w' → Q .normal a' w') → wpOps P ops Q (List.range' pre.length post.length) a w
  | [], pre, F0, hl, hr, Q, j, a, w, h, hQ => by
    simp only [List.length_nil, List.range'_zero, wpOps]
    exact hQ j a w (by simpa using h)
  | r :: post, pre, F0, hl, hr, Q, j, a, w, h, hQ => by
    simp only [List.length_cons, List.range'_succ]
    rw [wpOps_cons]
    have h0 := hr 0 r rfl
    simp only [List.take_zero, List.append_nil] at h0
    refine rec_step h h0 ?_ (fun j' a' w' h' => ?_)
    · rw [← Array.getElem?_toList, hl]
      simp
    · have := region_seq post (pre ++ [r]) F0 (by rw [hl]; simp) (fun m x hm => by
        have := hr (m + 1) x (by simpa using hm)
        simpa using this) (Q := Q) (j := j') (a := a') (w := w') (by simpa [full] using h') (fun j'' a'' w'' h'' => hQ j'' a'' w'' (by simpa using h''))
      simpa using this

/-- Closed under what must have come before. -/
def Closed (ops : Array Oper) (sel : Nat → Bool) : Prop := ∀ (i : Nat) o, ops[i]? = some o → sel i = true → ∀ e ∈ o.after, Region.binds .any e = true → sel e.on = true

theorem region_any {L : List Rec} {F0 : FS} (hl : ops.toList = L.map (·.o)) (hr : ∀ (m : Nat) r, L[m]? = some r → RecOk P ρ n ops r (full (L.take m) F0))
    (hback : ∀ (i : Nat) o, ops[i]? = some o → ∀ e ∈ o.after, Region.binds .any e = true → e.on < i)
    (hpair : ∀ (k i : Nat) x r, k < i → L[k]? = some x → L[i]? = some r → Indep ops x r ∨ ∀ sel, Closed ops sel → (∀ o, ops[i]? = some o → ∀ e ∈ o.after, Region.binds .any e = true → sel e.on = true) → sel k = true) {Q : Exit → Act → World → Prop}
    (hQ : ∀ j' a' w', Rel ρ n W0 (full L F0) j' a' w' → Q .normal a' w') :
    ∀ (fuel : Nat) (listed : Array Bool) (j : Nat → Option Nat) (a : Act) (w : World), listed.size = L.length → Closed ops (fun i => listed.getD i false) → (List.range L.length).countP (fun i => !listed.getD i false) ≤ fuel →
      Rel ρ n W0 (part (fun i => listed.getD i false) 0 L F0) j a w → wpAny P .any ops Q fuel listed a w := by
  have hsz : ops.size = L.length := by rw [← Array.length_toList, hl, List.length_map]
  have hop : ∀ (i : Nat) r, L[i]? = some r → ops[i]? = some r.o := fun i r hi => by rw [← Array.getElem?_toList, hl, List.getElem?_map, hi]; rfl
  have gd : ∀ (listed : Array Bool) (i : Nat), listed.size = L.length → i < L.length → listed.getD i true = listed.getD i false := fun listed i hs hi => by
    rw [Array.getD_eq_getD_getElem?, Array.getD_eq_getD_getElem?, Array.getElem?_eq_getElem (by omega)]; rfl
  have done : ∀ (listed : Array Bool) (j : Nat → Option Nat) (a : Act) (w : World), listed.size = L.length → Closed ops (fun i => listed.getD i false) → Rel ρ n W0 (part (fun i => listed.getD i false) 0 L F0) j a w → Region.ready .any ops listed = [] → Q .normal a w := by
    intro listed j a w hs hc h hnil
    refine hQ j a w ?_
    have hall : ∀ i, i < L.length → listed.getD i false = true := by
      intro i
      induction i using Nat.strongRecOn with
      | _ i ih =>
        intro hi
        cases hb : listed.getD i false with
        | true => rfl
        | false =>
          exfalso
          have : i ∈ Region.ready .any ops listed := by
            unfold Region.ready
            simp only [List.mem_filter, List.mem_range, Bool.and_eq_true, Bool.not_eq_true']
            obtain ⟨r, hr'⟩ : ∃ r, L[i]? = some r := ⟨L[i], List.getElem?_eq_getElem hi⟩
            have ho := hop i r hr'
            refine ⟨by omega, ?_, ?_⟩
            · rw [gd listed i hs hi]; exact hb
            · rw [ho]
              simp only [Option.map_some, Option.getD_some, Array.all_eq_true_iff_forall_mem, Bool.or_eq_true, Bool.not_eq_true']
              intro e he
              cases hbd : Region.binds .any e with
              | false => exact .inl rfl
              | true =>
                have hlt := hback i _ ho e he hbd
                exact .inr (ih e.on hlt (by omega))
          rw [hnil] at this
          cases this
    rw [part_full L 0 F0 (fun m hm => by simpa using hall m hm)] at h
    exact h
  intro fuel
  induction fuel with
  | zero =>
    intro listed j a w hs hc hf h
    have hall : ∀ i, i < L.length → listed.getD i false = true := fun i hi => by
      have := List.countP_eq_zero.1 (Nat.le_zero.1 hf) i (List.mem_range.2 hi)
      simpa using this
    have hnil : Region.ready .any ops listed = [] := by
      unfold Region.ready
      rw [List.filter_eq_nil_iff]
      intro i hi
      have hi' : i < L.length := by rw [List.mem_range] at hi; omega
      rw [gd listed i hs hi', hall i hi']
      simp
    exact ⟨hnil, done listed j a w hs hc h hnil⟩
  | succ fuel ih =>
    intro listed j a w hs hc hf h
    refine ⟨fun hnil => done listed j a w hs hc h hnil, fun i hi => ?_⟩
    obtain ⟨hun, o, ho, hall⟩ := mem_ready.1 hi
    have hi' : i < L.length := by
      rw [← hsz]
      rcases Nat.lt_or_ge i ops.size with h1 | h1
      · exact h1
      · rw [Array.getElem?_eq_none h1] at ho; cases ho
    obtain ⟨r, hr'⟩ : ∃ r, L[i]? = some r := ⟨L[i], List.getElem?_eq_getElem hi'⟩
    have ho' := hop i r hr'
    rw [ho] at ho'
    cases ho'
    have hun' : listed.getD i false = false := by rw [← gd listed i hs hi']; exact hun
    have hsplit : L = L.take i ++ r :: L.drop (i + 1) := by
      rw [List.getElem?_eq_getElem hi'] at hr'
      cases hr'
      simp
    have hlen : (L.take i).length = i := by simp; omega
    -- the ones that have not come although earlier, and those that have come although later
    have hpre : ∀ (m : Nat) x, (L.take i)[m]? = some x → listed.getD (0 + m) false = false → Indep ops x r := by
      intro m x hm hsel
      have hmi : m < i := by
        rcases Nat.lt_or_ge m i with h1 | h1
        · exact h1
        · rw [List.getElem?_eq_none (by omega)] at hm; cases hm
      rw [List.getElem?_take_of_lt hmi] at hm
      rcases hpair m i x r hmi hm hr' with h1 | h1
      · exact h1
      · exfalso
        have := h1 (fun i => listed.getD i false) hc (fun o' ho2 e he hb => by
          rw [ho] at ho2; cases ho2
          exact hall e he hb)
        simp only [Nat.zero_add] at hsel
        rw [hsel] at this
        cases this
    have hpost : ∀ (m : Nat) x, (L.drop (i + 1))[m]? = some x → listed.getD (i + 1 + m) false = true → Indep ops x r := by
      intro m x hm hsel
      rw [List.getElem?_drop] at hm
      rcases hpair i (i + 1 + m) r x (by omega) hr' hm with h1 | h1
      · exact h1.symm
      · exfalso
        have := h1 (fun i => listed.getD i false) hc (fun o' ho2 e he hb => hc (i + 1 + m) o' ho2 hsel e he hb)
        rw [hun'] at this
        cases this
    have hF : part (fun i => listed.getD i false) 0 L F0 = part (fun i => listed.getD i false) (i + 1) (L.drop (i + 1)) (part (fun i => listed.getD i false) 0 (L.take i) F0) := by
      conv => lhs; rw [hsplit]
      rw [part_append, hlen, Nat.zero_add]
      simp only [part, hun']
      rfl
    have hag : Agree ops r (full (L.take i) F0) (part (fun i => listed.getD i false) 0 L F0) := by
      rw [hF]
      exact agree_post _ _ _ _ (agree_pre _ 0 _ _ (Agree.refl ops r F0) hpre) hpost
    have hok := (hr i r hr').agree hag
    refine rec_step h hok ho (fun j' a' w' h' => ?_)
    have hsz' : (listed.setIfInBounds i true).size = L.length := by simp [hs]
    have hget : ∀ k, (listed.setIfInBounds i true).getD k false = if k = i then true else listed.getD k false := by
      intro k
      rw [Array.getD_eq_getD_getElem?, Array.getElem?_setIfInBounds]
      by_cases hk : k = i
      · subst hk
        simp [hs, hi']
      · have hik : ¬ i = k := fun e => hk e.symm
        simp [hk, hik, Array.getD_eq_getD_getElem?]
    refine ih _ j' a' w' hsz' ?_ ?_ ?_
    · intro k o' hk hsel e he hb
      simp only [hget] at hsel ⊢
      by_cases hki : k = i
      · subst hki
        rw [ho] at hk; cases hk
        split
        · rfl
        · exact hall e he hb
      · rw [if_neg hki] at hsel
        split
        · rfl
        · exact hc k o' hk hsel e he hb
    · have : (List.range L.length).countP (fun k => !(listed.setIfInBounds i true).getD k false) < (List.range L.length).countP (fun k => !listed.getD k false) := by
        have e1 : (List.range L.length) = List.range i ++ i :: (List.range' (i + 1) (L.length - (i + 1))) := by
          have h1 : i :: List.range' (i + 1) (L.length - (i + 1)) = List.range' i (L.length - i) := by
            rw [show L.length - i = (L.length - (i + 1)) + 1 by omega, List.range'_succ]
          have h2 := List.range'_append_1 (s := 0) (m := i) (n := L.length - i)
          rw [Nat.zero_add, show i + (L.length - i) = L.length by omega] at h2
          rw [h1, List.range_eq_range', List.range_eq_range', h2]
        rw [e1, List.countP_append, List.countP_append, List.countP_cons, List.countP_cons]
        have c1 : ∀ l : List Nat, i ∉ l → l.countP (fun k => !(listed.setIfInBounds i true).getD k false) = l.countP (fun k => !listed.getD k false) := by
          intro l hl'
          apply List.countP_congr
          intro k hk
          have : k ≠ i := fun e => hl' (e ▸ hk)
          simp only [hget, this, if_false]
        rw [c1 _ (by simp), c1 _ (by rw [List.mem_range'_1]; omega)]
        simp [hget, hun']
      omega
    · have : part (fun k => (listed.setIfInBounds i true).getD k false) 0 L F0 = (part (fun i => listed.getD i false) 0 L F0).rec' r := by
        rw [hF]
        conv => lhs; rw [hsplit]
        rw [part_append, hlen, Nat.zero_add]
        simp only [part, hget, if_true]
        rw [part_congr (sel' := fun i => listed.getD i false) (L.take i) 0 F0 (fun m hm => by
          have : m ≠ i := by rw [hlen] at hm; omega
          simp [this])]
        rw [part_congr (sel' := fun i => listed.getD i false) (L.drop (i + 1)) (i + 1) _ (fun m hm => by
          have : ¬ i + 1 + m = i := by omega
          simp [this])]
        exact part_rec _ _ _ hpost
      rw [this]
      exact h'
end
end Go.Proofs.Ytcngfmhhaleoaaa

/- The symbolic run of a function's code, and that it is sound. Nothing of the program is in here. -/
set_option linter.unusedVariables false
set_option linter.unusedSimpArgs false
namespace Go.Proofs.Ytcngfmhhaleoaaa
open Go.RowKit

structure St where
  tmps : List V
  heap : List (List C × Nat)
  deriving Inhabited
def evS (tmps : List V) : Operand → Option V
  | .tmp t => tmps[t]?
  | .const v => ofValue v
  | .global _ => none
  | .func f => some (.one (.fn f))
def ldS (heap : List (List C × Nat)) (b o : Nat) : Option C := (heap[b]?).bind fun x => x.1[o]?
def St.fs (s : St) : FS := ⟨fun t => (s.tmps[t]?).getD (.one .undef), fun b => s.heap[b]?⟩

def wrsS : List (Nat × Nat × C) → List (List C × Nat) → Option (List (List C × Nat))
  | [], h => some h
  | (b, o, c) :: l, h => match h[b]? with
    | some (cs, ty) => if o < cs.length then wrsS l (h.set b (cs.set o c, ty)) else none
    | none => none
def St.app (s : St) (dst : Option Nat) (eff : Eff) : Option St :=
  match (match eff.al with | some x => (match eff.wr with | [] => some (s.heap ++ [x]) | _ => none) | none => wrsS eff.wr s.heap) with
  | none => none
  | some h => match dst with
    | none => some ⟨s.tmps, h⟩
    | some d => if d < s.tmps.length then some ⟨s.tmps.set d eff.val, h⟩ else none

theorem evS_evF (s : St) (x : Operand) : evF s.fs s.tmps.length x = evS s.tmps x := by
  cases x with
  | tmp t =>
    simp only [evF, evS, St.fs]
    split
    · rename_i h; simp [List.getElem?_eq_getElem h]
    · rename_i h; rw [List.getElem?_eq_none (Nat.le_of_not_lt h)]
  | _ => rfl
theorem ldS_ldF (s : St) (b o : Nat) : ldF s.fs b o = ldS s.heap b o := rfl

theorem wrsS_ok : ∀ (l : List (Nat × Nat × C)) (h h' : List (List C × Nat)) (tm : Nat → V), wrsS l h = some h' → (⟨tm, fun b => h'[b]?⟩ : FS) = FS.wrs ⟨tm, fun b => h[b]?⟩ l ∧ ∀ p ∈ l, ∃ c, ldF ⟨tm, fun b => h[b]?⟩ p.1 p.2.1 = some c
  | [], h, h', tm, e => by cases e; exact ⟨rfl, fun p hp => by cases hp⟩
  | (b, o, c) :: l, h, h', tm, e => by
    simp only [wrsS] at e
    split at e
    · rename_i cs ty hb
      split at e
      · rename_i ho
        obtain ⟨h1, h2⟩ := wrsS_ok l _ h' tm e
        have hblt : b < h.length := by
          rcases Nat.lt_or_ge b h.length with h3 | h3
          · exact h3
          · rw [List.getElem?_eq_none h3] at hb; cases hb
        have hw : (⟨tm, fun b' => (h.set b (cs.set o c, ty))[b']?⟩ : FS) = FS.wr ⟨tm, fun b => h[b]?⟩ (b, o, c) := by
          refine FS.ext' (fun _ => rfl) (fun b' => ?_)
          unfold FS.wr
          dsimp only
          rw [List.getElem?_set]
          by_cases hbb : b' = b
          · subst hbb
            simp only [if_true, hblt, hb, Option.map_some]
          · simp [hbb, show ¬ b = b' from fun e => hbb e.symm]
        refine ⟨by rw [h1, hw]; rfl, fun p hp => ?_⟩
        rcases List.mem_cons.1 hp with rfl | hp
        · refine ⟨cs[o], ?_⟩
          simp [ldF, hb, List.getElem?_eq_getElem ho]
        · obtain ⟨c', hc'⟩ := h2 p hp
          rw [hw, ldF_wr] at hc'
          split at hc'
          · rw [Option.map_eq_some_iff] at hc'
            obtain ⟨x, hx, _⟩ := hc'
            exact ⟨x, hx⟩
          · exact ⟨c', hc'⟩
      · cases e
    · cases e

theorem St.app_ok {s s' : St} {dst : Option Nat} {eff : Eff} (h : s.app dst eff = some s') : s'.fs = s.fs.app dst s.heap.length eff ∧ s'.tmps.length = s.tmps.length ∧ (∀ d, dst = some d → d < s.tmps.length) ∧ (∀ p ∈ eff.wr, ∃ c, ldF s.fs p.1 p.2.1 = some c) := by
  unfold St.app at h
  split at h
  · cases h
  · rename_i hp heq
    have key : (∀ dst, (⟨s.fs.tmp, fun b => hp[b]?⟩ : FS).put dst eff.val = s.fs.app dst s.heap.length eff) ∧ (∀ p ∈ eff.wr, ∃ c, ldF s.fs p.1 p.2.1 = some c) := by
      unfold FS.app
      cases hal : eff.al with
      | some x =>
        rw [hal] at heq
        dsimp only at heq
        split at heq
        · rename_i hwr
          cases heq
          refine ⟨fun dst => ?_, fun p hp => (by rw [hwr] at hp; cases hp)⟩
          have : (⟨s.fs.tmp, fun b => (s.heap ++ [x])[b]?⟩ : FS) = s.fs.new s.heap.length x := by
            refine FS.ext' (fun _ => rfl) (fun b => ?_)
            simp only [FS.new, St.fs]
            by_cases hb : b = s.heap.length
            · subst hb; simp
            · rcases Nat.lt_or_ge b s.heap.length with h1 | h1
              · rw [List.getElem?_append_left h1]; simp [hb]
              · rw [List.getElem?_eq_none (by simp; omega)]
                simp [hb, List.getElem?_eq_none h1]
          rw [this]
        · cases heq
      | none =>
        rw [hal] at heq
        obtain ⟨h1, h2⟩ := wrsS_ok eff.wr s.heap hp s.fs.tmp heq
        exact ⟨fun dst => by rw [h1]; rfl, h2⟩
    split at h
    · cases h
      refine ⟨?_, rfl, fun d hd => (by cases hd), key.2⟩
      rw [← key.1]
      refine FS.ext' (fun t => ?_) (fun _ => rfl)
      simp [FS.put, St.fs]
    · rename_i d
      split at h
      · rename_i hd
        cases h
        refine ⟨?_, by simp, fun d' hd' => (by cases hd'; exact hd), key.2⟩
        rw [← key.1]
        refine FS.ext' (fun t => ?_) (fun _ => rfl)
        simp only [FS.put, St.fs, List.getElem?_set]
        by_cases ht : d = t
        · subst ht; simp [hd]
        · simp [ht]
      · cases h

/-! ### The operations of a region -/
def opsK (cx : Cx) (ops : Array Oper) : List Oper → St → Kw → (List Rec → St → Kw → Tr) → Tr
  | [], s, kw, k => k [] s kw
  | o :: l, s, kw, k =>
    match o.guard with
    | none => opK cx (evS s.tmps) (ldS s.heap) s.heap.length o.op kw fun eff kw =>
      match s.app o.dst eff with
      | some s' => opsK cx ops l s' kw fun rs s'' kw => k (⟨o, true, s.heap.length, eff⟩ :: rs) s'' kw
      | none => .stuck 60
    | some (g, b) =>
      match ((ops[g]?).bind (·.dst)).bind (s.tmps[·]?) with
      | some (.one (.bool e)) => decK e (fun x kw =>
        if x == b then opK cx (evS s.tmps) (ldS s.heap) s.heap.length o.op kw fun eff kw =>
          match s.app o.dst eff with
          | some s' => opsK cx ops l s' kw fun rs s'' kw => k (⟨o, true, s.heap.length, eff⟩ :: rs) s'' kw
          | none => .stuck 60
        else match s.app o.dst { val := .one .undef } with
          | some s' => opsK cx ops l s' kw fun rs s'' kw => k (⟨o, false, s.heap.length, { val := .one .undef }⟩ :: rs) s'' kw
          | none => .stuck 60) kw
      | some (.one .undef) => match s.app o.dst { val := .one .undef } with
          | some s' => opsK cx ops l s' kw fun rs s'' kw => k (⟨o, false, s.heap.length, { val := .one .undef }⟩ :: rs) s'' kw
          | none => .stuck 60
      | _ => .stuck 61

section
variable {P : Program} {sp : Spec} {ρ : Env} {G : V → Prop} {cx : Cx}

theorem opsK_ok (hT : ∀ t i, (t, i) ∈ cx.ty → TIok P t i) (hS : ∀ s ∈ cx.sm, SmOk P sp s) (hkeys : ∀ s ∈ cx.sm, ∀ s' ∈ cx.sm, s.key = s'.key → s = s') {ops : Array Oper} :
    ∀ (l : List Oper) (s : St) (kw : Kw) (k : List Rec → St → Kw → Tr), (opsK cx ops l s kw k).holds sp ρ G → Good sp cx.sm ρ kw →
      ∃ rs s' kw', (k rs s' kw').holds sp ρ G ∧ Good sp cx.sm ρ kw' ∧ rs.map (·.o) = l ∧ s'.fs = full rs s.fs ∧ s'.tmps.length = s.tmps.length ∧ ∀ (m : Nat) r, rs[m]? = some r → RecOk P ρ s.tmps.length ops r (full (rs.take m) s.fs)
  | [], s, kw, k, h, hg => ⟨[], s, kw, h, hg, rfl, rfl, rfl, fun m r hm => by simp at hm⟩
  | o :: l, s, kw, k, h, hg => by
    -- what is common to the ways
    have next : ∀ (want : Bool) (eff : Eff) (kw : Kw), ((match s.app o.dst eff with | some s' => opsK cx ops l s' kw fun rs s'' kw => k (⟨o, want, s.heap.length, eff⟩ :: rs) s'' kw | none => .stuck 60 : Tr)).holds sp ρ G → Good sp cx.sm ρ kw →
        (∀ s', s.app o.dst eff = some s' → RecOk P ρ s.tmps.length ops ⟨o, want, s.heap.length, eff⟩ s.fs) →
        ∃ rs s' kw', (k rs s' kw').holds sp ρ G ∧ Good sp cx.sm ρ kw' ∧ rs.map (·.o) = o :: l ∧ s'.fs = full rs s.fs ∧ s'.tmps.length = s.tmps.length ∧ ∀ (m : Nat) r, rs[m]? = some r → RecOk P ρ s.tmps.length ops r (full (rs.take m) s.fs) := by
      intro want eff kw h hg hrec
      split at h
      · rename_i s1 hs1
        obtain ⟨e1, e2, e3, e4⟩ := St.app_ok hs1
        obtain ⟨rs, s', kw', h1, h2, h3, h4, h5, h6⟩ := opsK_ok hT hS hkeys l s1 kw _ h hg
        refine ⟨⟨o, want, s.heap.length, eff⟩ :: rs, s', kw', h1, h2, by simp [h3], ?_, by rw [h5, e2], fun m r hm => ?_⟩
        · rw [h4, e1]; rfl
        · cases m with
          | zero =>
            simp only [List.getElem?_cons_zero, Option.some.injEq] at hm
            subst hm
            exact hrec s1 hs1
          | succ m =>
            have := h6 m r (by simpa using hm)
            rw [e1, e2] at this
            exact this
      · exact h.elim
    have ran : ∀ kw, (opK cx (evS s.tmps) (ldS s.heap) s.heap.length o.op kw fun eff kw =>
          match s.app o.dst eff with
          | some s' => opsK cx ops l s' kw fun rs s'' kw => k (⟨o, true, s.heap.length, eff⟩ :: rs) s'' kw
          | none => .stuck 60).holds sp ρ G → Good sp cx.sm ρ kw →
        (match o.guard with
          | none => True
          | some (g, b) => ∃ t, (ops[g]?).bind (·.dst) = some t ∧ t < s.tmps.length ∧ ∃ e : E, s.fs.tmp t = .one (.bool e) ∧ true = (e.B ρ == b)) →
        ∃ rs s' kw', (k rs s' kw').holds sp ρ G ∧ Good sp cx.sm ρ kw' ∧ rs.map (·.o) = o :: l ∧ s'.fs = full rs s.fs ∧ s'.tmps.length = s.tmps.length ∧ ∀ (m : Nat) r, rs[m]? = some r → RecOk P ρ s.tmps.length ops r (full (rs.take m) s.fs) := by
      intro kw h hg hgd
      obtain ⟨eff, kw1, h1, g1, hok⟩ := opK_ok (P := P) (o := o) hT hS hkeys h hg
      refine next true eff kw1 h1 g1 (fun s1 hs1 => ?_)
      obtain ⟨e1, e2, e3, e4⟩ := St.app_ok hs1
      refine ⟨fun _ => ⟨_, _, hok, ⟨fun x hx v hv => by rw [evS_evF]; exact hv, fun p hp c hc => hc, e4, fun _ => by simp [St.fs]⟩⟩, fun h => (by cases h), ?_, e3⟩
      cases hgg : o.guard with
      | none => simp [hgg]
      | some p =>
        obtain ⟨g, b⟩ := p
        simp only [hgg]
        rw [hgg] at hgd
        obtain ⟨t, h2, h3, e, h4, h5⟩ := hgd
        exact ⟨t, h2, h3, .inl ⟨e, h4, h5⟩⟩
    have skipped : ∀ (kw : Kw) (g : Nat) (b : Bool), o.guard = some (g, b) → (match s.app o.dst { val := .one .undef } with
          | some s' => opsK cx ops l s' kw fun rs s'' kw => k (⟨o, false, s.heap.length, { val := .one .undef }⟩ :: rs) s'' kw
          | none => .stuck 60 : Tr).holds sp ρ G → Good sp cx.sm ρ kw →
        (∃ t, (ops[g]?).bind (·.dst) = some t ∧ t < s.tmps.length ∧ ((∃ e : E, s.fs.tmp t = .one (.bool e) ∧ false = (e.B ρ == b)) ∨ (s.fs.tmp t = .one .undef ∧ false = false))) →
        ∃ rs s' kw', (k rs s' kw').holds sp ρ G ∧ Good sp cx.sm ρ kw' ∧ rs.map (·.o) = o :: l ∧ s'.fs = full rs s.fs ∧ s'.tmps.length = s.tmps.length ∧ ∀ (m : Nat) r, rs[m]? = some r → RecOk P ρ s.tmps.length ops r (full (rs.take m) s.fs) := by
      intro kw g b hgg h hg hgd
      refine next false _ kw h hg (fun s1 hs1 => ?_)
      obtain ⟨e1, e2, e3, e4⟩ := St.app_ok hs1
      refine ⟨fun h => (by cases h), fun _ => rfl, ?_, e3⟩
      simp only [hgg]
      obtain ⟨t, h1, h2, h3⟩ := hgd
      exact ⟨t, h1, h2, h3.imp id (fun h => ⟨h.1, trivial⟩)⟩
    have tmpAt : ∀ (g t : Nat) v, ((ops[g]?).bind (·.dst)).bind (s.tmps[·]?) = some v → ∃ t, (ops[g]?).bind (·.dst) = some t ∧ t < s.tmps.length ∧ s.fs.tmp t = v := by
      intro g _ v h
      rw [Option.bind_eq_some_iff] at h
      obtain ⟨t, h1, h2⟩ := h
      refine ⟨t, h1, ?_, by simp [St.fs, h2]⟩
      rcases Nat.lt_or_ge t s.tmps.length with h3 | h3
      · exact h3
      · rw [List.getElem?_eq_none h3] at h2; cases h2
    unfold opsK at h
    split at h
    · rename_i hgg
      exact ran kw h hg (by simp [hgg])
    · rename_i g b hgg
      split at h
      · rename_i e he
        obtain ⟨t, h1, h2, h3⟩ := tmpAt g 0 _ he
        obtain ⟨kw1, h4, g4⟩ := decK_ok _ _ _ h hg
        split at h4
        · rename_i hb
          exact ran kw1 h4 g4 (by simp only [hgg]; exact ⟨t, h1, h2, e, h3, hb.symm⟩)
        · rename_i hb
          exact skipped kw1 g b hgg h4 g4 ⟨t, h1, h2, .inl ⟨e, h3, by simpa using hb⟩⟩
      · rename_i he
        obtain ⟨t, h1, h2, h3⟩ := tmpAt g 0 _ he
        exact skipped kw g b hgg h hg ⟨t, h1, h2, .inr ⟨h3, rfl⟩⟩
      · exact h.elim
end
end Go.Proofs.Ytcngfmhhaleoaaa

/- The symbolic run of a function's whole code, and that it is sound. Nothing of the program is in here. -/
set_option linter.unusedVariables false
set_option linter.unusedSimpArgs false
namespace Go.Proofs.Ytcngfmhhaleoaaa
open Go.RowKit

/-! ### The order of a drawn region -/
def maskOf (o : Oper) (ms : List Nat) : Nat :=
  o.after.toList.foldl (fun m e => if Region.binds .any e then m ||| (2 ^ e.on ||| ms.getD e.on 0) else m) 0
def pairsOk (ops : Array Oper) (r : Rec) (m : Nat) : Nat → List Rec → Bool
  | _, [] => true
  | k, x :: pre => (m.testBit k || indep ops x r) && pairsOk ops r m (k + 1) pre
def ordK (ops : Array Oper) : List Rec → Nat → List Rec → List Nat → Bool
  | [], _, _, _ => true
  | r :: l, i, pre, ms =>
    (r.o.after.toList.all fun e => !Region.binds .any e || decide (e.on < i)) && (pairsOk ops r (maskOf r.o ms) 0 pre && ordK ops l (i + 1) (pre ++ [r]) (ms ++ [maskOf r.o ms]))

section
variable {ops : Array Oper}

theorem mask_bit {ms : List Nat} {k : Nat} : ∀ (l : List Edge) (m0 : Nat), (l.foldl (fun m e => if Region.binds .any e then m ||| (2 ^ e.on ||| ms.getD e.on 0) else m) m0).testBit k = true →
    m0.testBit k = true ∨ ∃ e ∈ l, Region.binds .any e = true ∧ (k = e.on ∨ (ms.getD e.on 0).testBit k = true)
  | [], m0, h => .inl h
  | e :: l, m0, h => by
    simp only [List.foldl_cons] at h
    rcases mask_bit l _ h with h1 | ⟨e', h1, h2⟩
    · split at h1
      · rename_i hb
        rw [Nat.testBit_or, Nat.testBit_or, Nat.testBit_two_pow, Bool.or_eq_true, Bool.or_eq_true, decide_eq_true_eq] at h1
        rcases h1 with h1 | h1 | h1
        · exact .inl h1
        · exact .inr ⟨e, List.mem_cons_self, hb, .inl h1.symm⟩
        · exact .inr ⟨e, List.mem_cons_self, hb, .inr h1⟩
      · exact .inl h1
    · exact .inr ⟨e', List.mem_cons_of_mem _ h1, h2⟩

theorem pairs_at {r : Rec} {m : Nat} : ∀ (pre : List Rec) (k0 : Nat), pairsOk ops r m k0 pre = true → ∀ (k : Nat) x, pre[k]? = some x → m.testBit (k0 + k) = true ∨ Indep ops x r
  | y :: pre, k0, h, k, x, hk => by
    simp only [pairsOk, Bool.and_eq_true, Bool.or_eq_true] at h
    cases k with
    | zero =>
      simp only [List.getElem?_cons_zero, Option.some.injEq] at hk
      subst hk
      exact h.1.imp id indep_ok
    | succ k =>
      have := pairs_at pre (k0 + 1) h.2 k x (by simpa using hk)
      rwa [Nat.add_assoc, Nat.add_comm 1 k] at this
  | [], _, _, k, x, hk => by simp at hk

theorem ordK_ok (hidx : ∀ (i : Nat) r, ∀ L : List Rec, ops.toList = L.map (·.o) → L[i]? = some r → ops[i]? = some r.o) : ∀ (post pre : List Rec) (ms : List Nat), ops.toList = (pre ++ post).map (·.o) → ordK ops post pre.length pre ms = true → ms.length = pre.length →
    (∀ (i : Nat), i < ms.length → ∀ k, (ms.getD i 0).testBit k = true → ∀ sel, Closed ops sel → (∀ o, ops[i]? = some o → ∀ e ∈ o.after, Region.binds .any e = true → sel e.on = true) → sel k = true) →
    (∀ (i : Nat) r, pre.length ≤ i → (pre ++ post)[i]? = some r → ∀ e ∈ r.o.after, Region.binds .any e = true → e.on < i) ∧
    (∀ (k i : Nat) x r, k < i → pre.length ≤ i → (pre ++ post)[k]? = some x → (pre ++ post)[i]? = some r → Indep ops x r ∨ ∀ sel, Closed ops sel → (∀ o, ops[i]? = some o → ∀ e ∈ o.after, Region.binds .any e = true → sel e.on = true) → sel k = true)
  | [], pre, ms, hl, h, hm, hms => by
    have none : ∀ (i : Nat) r, pre.length ≤ i → ¬ (pre ++ [])[i]? = some r := fun i r hi hr => by
      rw [List.append_nil, List.getElem?_eq_none hi] at hr; cases hr
    exact ⟨fun i r hi hr => absurd hr (none i r hi), fun k i x r _ hi _ hr => absurd hr (none i r hi)⟩
  | r0 :: post, pre, ms, hl, h, hm, hms => by
    simp only [ordK, Bool.and_eq_true] at h
    obtain ⟨h1, h2, h3⟩ := h
    have e1 : pre ++ r0 :: post = (pre ++ [r0]) ++ post := by simp
    have at0 : ops[pre.length]? = some r0.o := hidx pre.length r0 _ hl (by simp)
    have hmask : ∀ k, (maskOf r0.o ms).testBit k = true → ∀ sel, Closed ops sel → (∀ o, ops[pre.length]? = some o → ∀ e ∈ o.after, Region.binds .any e = true → sel e.on = true) → sel k = true := by
      intro k hk sel hc he
      rcases mask_bit _ 0 hk with h4 | ⟨e, h4, h5, h6⟩
      · simp at h4
      · have h4' : e ∈ r0.o.after := by simpa using h4
        have hs := he _ at0 e h4' h5
        rcases h6 with rfl | h6
        · exact hs
        · rcases Nat.lt_or_ge e.on ms.length with h7 | h7
          · exact hms e.on h7 k h6 sel hc (fun o ho e' he' hb => hc e.on o ho hs e' he' hb)
          · rw [List.getD_eq_getElem?_getD, List.getElem?_eq_none h7] at h6
            simp at h6
    obtain ⟨g1, g2⟩ := ordK_ok hidx post (pre ++ [r0]) (ms ++ [maskOf r0.o ms]) (by rw [← e1]; exact hl) (by simpa using h3) (by simp [hm]) (fun i hi k hk => by
      rcases Nat.lt_or_ge i ms.length with h4 | h4
      · rw [List.getD_eq_getElem?_getD, List.getElem?_append_left h4, ← List.getD_eq_getElem?_getD] at hk
        exact hms i h4 k hk
      · have : i = ms.length := by simp at hi; omega
        subst this
        rw [List.getD_eq_getElem?_getD, List.getElem?_append_right (Nat.le_refl _)] at hk
        simp only [Nat.sub_self, List.getElem?_cons_zero, Option.getD_some] at hk
        rw [hm]
        exact hmask k hk)
    rw [e1]
    refine ⟨fun i r hi hr => ?_, fun k i x r hk hi hx hr => ?_⟩
    · rcases Nat.lt_or_ge pre.length i with h4 | h4
      · exact g1 i r (by simp; omega) hr
      · have : i = pre.length := by omega
        subst this
        have : r = r0 := by simpa using hr.symm
        subst this
        intro e he hb
        have := List.all_eq_true.1 h1 e (by simpa using he)
        simpa [hb] using this
    · rcases Nat.lt_or_ge pre.length i with h4 | h4
      · exact g2 k i x r hk (by simp; omega) hx hr
      · have : i = pre.length := by omega
        subst this
        have : r = r0 := by simpa using hr.symm
        subst this
        rw [← e1, List.getElem?_append_left hk] at hx
        rcases pairs_at pre 0 h2 k x hx with h5 | h5
        · rw [Nat.zero_add] at h5
          exact .inr (hmask k h5)
        · exact .inl h5
end

/-! ### Code -/
inductive Sig where
  | normal
  | exit (id : Nat)
  | ret

def loopN (f : St → Kw → (Sig → St → Kw → Tr) → Tr) : Nat → St → Kw → (Sig → St → Kw → Tr) → Tr
  | 0, _, _, _ => .stuck 73
  | n + 1, s, kw, k => f s kw fun sg s kw => match sg with
    | .normal => loopN f n s kw k
    | sg => k sg s kw

def codeK (cx : Cx) (fuel : Nat) : Code → St → Kw → (Sig → St → Kw → Tr) → Tr
  | .skip, s, kw, k => k .normal s kw
  | .label _, s, kw, k => k .normal s kw
  | .region _ ops draw, s, kw, k => opsK cx ops ops.toList s kw fun rs s' kw' =>
    if draw then (if ordK ops rs 0 [] [] then k .normal s' kw' else .stuck 70) else k .normal s' kw'
  | .seq a b, s, kw, k => codeK cx fuel a s kw fun sg s kw => match sg with
    | .normal => codeK cx fuel b s kw k
    | sg => k sg s kw
  | .cond c x y, s, kw, k => match evS s.tmps c with
    | some (.one (.bool e)) => decK e (fun t kw => if t then codeK cx fuel x s kw k else codeK cx fuel y s kw k) kw
    | _ => .stuck 71
  | .block id c, s, kw, k => codeK cx fuel c s kw fun sg s kw => match sg with
    | .exit i => if Nat.beq i id then k .normal s kw else k (.exit i) s kw
    | sg => k sg s kw
  | .loop c, s, kw, k => loopN (codeK cx fuel c) fuel s kw k
  | .exit id, s, kw, k => k (.exit id) s kw
  | .ret, s, kw, k => k .ret s kw
  | _, _, _, _ => .stuck 72

def Sig.exit' : Sig → Exit
  | .normal => .normal
  | .exit id => .exit id
  | .ret => .ret

section
variable {P : Program} {sp : Spec} {ρ : Env} {G : V → Prop} {cx : Cx} {n : Nat} {W0 : World}

/-- A state of the run and one of the machine. -/
structure At (ρ : Env) (n : Nat) (W0 : World) (s : St) (j : Nat → Option Nat) (a : Act) (w : World) : Prop where
  rel : Rel ρ n W0 s.fs j a w
  len : s.tmps.length = n

theorem idx_of {ops : Array Oper} (i : Nat) (r : Rec) (L : List Rec) (hl : ops.toList = L.map (·.o)) (hi : L[i]? = some r) : ops[i]? = some r.o := by
  rw [← Array.getElem?_toList, hl, List.getElem?_map, hi]; rfl

theorem codeK_ok (hm : P.follows .mixedOrders = true) (hT : ∀ t i, (t, i) ∈ cx.ty → TIok P t i) (hS : ∀ s ∈ cx.sm, SmOk P sp s) (hkeys : ∀ s ∈ cx.sm, ∀ s' ∈ cx.sm, s.key = s'.key → s = s') (fuel : Nat) :
    ∀ (c : Code) (s : St) (kw : Kw) (k : Sig → St → Kw → Tr) (Q : Exit → Act → World → Prop) (j : Nat → Option Nat) (a : Act) (w : World), (codeK cx fuel c s kw k).holds sp ρ G → Good sp cx.sm ρ kw → At ρ n W0 s j a w →
      (∀ sg s' kw' j' a' w', (k sg s' kw').holds sp ρ G → Good sp cx.sm ρ kw' → At ρ n W0 s' j' a' w' → Q sg.exit' a' w') → c.wp P Q a w := by
  intro c
  induction c with
  | skip => intro s kw k Q j a w h hg hr hQ; exact wp_skip (hQ _ _ _ _ _ _ h hg hr)
  | label l => intro s kw k Q j a w h hg hr hQ; exact wp_label (hQ _ _ _ _ _ _ h hg hr)
  | exit id => intro s kw k Q j a w h hg hr hQ; exact wp_exit (hQ (.exit id) _ _ _ _ _ h hg hr)
  | ret => intro s kw k Q j a w h hg hr hQ; exact wp_ret (hQ .ret _ _ _ _ _ h hg hr)
  | region id ops draw =>
    intro s kw k Q j a w h hg hr hQ
    obtain ⟨rs, s', kw', h1, g1, h2, h3, h4, h5⟩ := opsK_ok (P := P) hT hS hkeys ops.toList s kw _ h hg
    rw [hr.len] at h5
    have fin : ∀ j' a' w', (k .normal s' kw').holds sp ρ G → Rel ρ n W0 (full rs s.fs) j' a' w' → Q .normal a' w' := fun j' a' w' hk hr' =>
      hQ .normal s' kw' j' a' w' hk g1 ⟨by rw [h3]; exact hr', by rw [h4]; exact hr.len⟩
    cases draw with
    | false =>
      refine wp_region ?_
      have hsz : ops.size = rs.length := by rw [← Array.length_toList, ← h2, List.length_map]
      rw [hsz, List.range_eq_range']
      exact region_seq (P := P) rs [] s.fs (by simpa using h2.symm) (by simpa using h5) (by simpa [full] using hr.rel) (fun j' a' w' hr' => fin j' a' w' h1 (by simpa using hr'))
    | true =>
      simp only [if_true] at h1
      split at h1
      · rename_i hord
        obtain ⟨g2, g3⟩ := ordK_ok (ops := ops) idx_of rs [] [] (by simpa using h2.symm) hord rfl (fun i hi => by simp at hi)
        refine wp_region_any hm ?_
        have hsz : ops.size = rs.length := by rw [← Array.length_toList, ← h2, List.length_map]
        refine region_any (F0 := s.fs) (L := rs) h2.symm h5 (fun i o ho e he hb => ?_) (fun k i x r hk hx hri => by simpa using g3 k i x r hk (Nat.zero_le _) (by simpa using hx) (by simpa using hri)) (fun j' a' w' hr' => fin j' a' w' h1 hr') ops.size (Array.replicate ops.size false) j a _ (by simp [hsz]) ?_ ?_ ?_
        · have hlt : i < rs.length := by
            rw [← hsz]
            rcases Nat.lt_or_ge i ops.size with h6 | h6
            · exact h6
            · rw [Array.getElem?_eq_none h6] at ho; cases ho
          have hri : rs[i]? = some rs[i] := List.getElem?_eq_getElem hlt
          have := idx_of i _ rs h2.symm hri
          rw [ho] at this
          cases this
          exact g2 i _ (Nat.zero_le _) (by simp) e he hb
        · intro i o _ hs
          simp only [Array.getD_eq_getD_getElem?, Array.getElem?_replicate] at hs
          split at hs <;> simp at hs
        · exact Nat.le_trans List.countP_le_length (by simp [hsz])
        · rw [part_none rs 0 s.fs (fun m hm => by
            simp only [Array.getD_eq_getD_getElem?, Array.getElem?_replicate]
            split <;> simp)]
          exact hr.rel.more (Ext.refl w).drew
      · exact h1.elim
  | seq x y ihx ihy =>
    intro s kw k Q j a w h hg hr hQ
    refine wp_seq (ihx s kw _ _ j a w h hg hr (fun sg s' kw' j' a' w' h' hg' hr' => ?_))
    cases sg with
    | normal => exact ihy s' kw' k Q j' a' w' h' hg' hr' hQ
    | exit id => exact hQ (.exit id) s' kw' j' a' w' h' hg' hr'
    | ret => exact hQ .ret s' kw' j' a' w' h' hg' hr'
  | cond c x y ihx ihy =>
    intro s kw k Q j a w h hg hr hQ
    simp only [codeK] at h
    split at h
    · rename_i e he
      have hc : a.eval c = .bool (e.B ρ) := by
        have h1 := hr.rel.eval (x := c) (v := .one (.bool e)) (by rw [← hr.len, evS_evF]; exact he)
        exact one_bool h1
      obtain ⟨kw1, h1, g1⟩ := decK_ok _ _ _ h hg
      refine wp_cond_split hc (fun ht => ?_) (fun ht => ?_)
      · rw [ht] at h1
        exact ihx s kw1 k Q j a w h1 g1 hr hQ
      · rw [ht] at h1
        exact ihy s kw1 k Q j a w h1 g1 hr hQ
    · exact h.elim
  | block id c ih =>
    intro s kw k Q j a w h hg hr hQ
    refine wp_block (ih s kw _ _ j a w h hg hr (fun sg s' kw' j' a' w' h' hg' hr' => ?_))
    cases sg with
    | normal => exact hQ .normal s' kw' j' a' w' h' hg' hr'
    | ret => exact hQ .ret s' kw' j' a' w' h' hg' hr'
    | exit i =>
      dsimp only at h'
      unfold Sig.exit' Exit.inBlock
      dsimp only
      split at h'
      · rename_i hi
        rw [if_pos (Nat.eq_of_beq_eq_true hi)]
        exact hQ .normal s' kw' j' a' w' h' hg' hr'
      · rename_i hi
        rw [if_neg (fun e => hi (by rw [e]; simp))]
        exact hQ (.exit i) s' kw' j' a' w' h' hg' hr'
  | loop c ih =>
    intro s kw k Q j a w h hg hr hQ
    simp only [codeK] at h
    refine wp_loop_rounds fuel ?_
    have key : ∀ (m : Nat) (s : St) (kw : Kw) (j : Nat → Option Nat) (a : Act) (w : World), (loopN (codeK cx fuel c) m s kw k).holds sp ρ G → Good sp cx.sm ρ kw → At ρ n W0 s j a w → Code.rounds P c Q m a w := by
      intro m
      induction m with
      | zero => intro s kw j a w h hg hr; exact h.elim
      | succ m ihm =>
        intro s kw j a w h hg hr
        rw [rounds_succ]
        simp only [loopN] at h
        refine ih s kw _ _ j a w h hg hr (fun sg s' kw' j' a' w' h' hg' hr' => ?_)
        cases sg with
        | normal => exact ihm s' kw' j' a' w' h' hg' hr'
        | exit id => exact hQ (.exit id) s' kw' j' a' w' h' hg' hr'
        | ret => exact hQ .ret s' kw' j' a' w' h' hg' hr'
    exact key fuel s kw j a w h hg hr
  | _ => intro s kw k Q j a w h; exact h.elim

/-! ### Results, and the whole function -/
def resOne (cx : Cx) (s : St) : ResultVar → Option (Bool × List C)
  | .tmp t => match s.tmps[t]? with
    | some (.one c) => some (false, [c])
    | some (.agg cs) => some (true, cs)
    | _ => none
  | .cell t ty => match s.tmps[t]?, lookN ty cx.ty with
    | some (.one (.ptr b o)), some i => if i.agg then (rowOf (ldS s.heap) b o i.size).map (true, ·) else (ldS s.heap b o).map (false, [·])
    | _, _ => none
def resL (cx : Cx) (s : St) : List ResultVar → Option (List (Bool × List C))
  | [] => some []
  | r :: l => match resOne cx s r, resL cx s l with
    | some x, some xs => some (x :: xs)
    | _, _ => none
def resOf (cx : Cx) (s : St) (l : List ResultVar) : Option V :=
  match resL cx s l with
  | some [(true, cs)] => some (.agg cs)
  | some [(false, [c])] => some (.one c)
  | some [_] => none
  | some xs => some (.tup xs)
  | none => none

def V.rng (vk : List (Option IntKind)) : V → Bool
  | .one c => c.rng vk
  | .agg cs => cs.all (C.rng vk)
  | .tup vs => vs.all fun p => p.2.all (C.rng vk)
def cellIn : Value → Bool
  | .int k z => inK k z
  | _ => true
def partIn : Value → Bool
  | .agg cs => cs.toList.all cellIn
  | v => cellIn v
def valIn : Value → Bool
  | .tuple vs => vs.toList.all partIn
  | v => partIn v

def funK (cx : Cx) (fuel : Nat) (fn : Func) (args : List V) (kw : Kw) : Tr :=
  match fn.body with
  | some c => codeK cx fuel c ⟨args ++ List.replicate (fn.ntmps - args.length) (.one .undef), []⟩ kw fun sg s kw => match sg with
    | .exit _ => .stuck 80
    | _ => match resOf cx s fn.results.toList with
      | some v => if v.rng kw.vk then .leaf v else .stuck 83
      | none => .stuck 81
  | none => .stuck 82

theorem rowOf_ok {j : Nat → Option Nat} {a : Act} {w : World} {s : St} (h : Rel ρ n W0 s.fs j a w) {b k : Nat} (hj : j b = some k) : ∀ (m o : Nat), RdOk ρ j w (ldS s.heap) (rowRd b o m) := by
  intro m
  induction m with
  | zero => intro o p hp; cases hp
  | succ m ih =>
    intro o p hp c hc
    obtain ⟨k', v, h1, h2, h3, _⟩ := ldF_cell h (b := p.1) (o := p.2) (c := c) hc
    exact ⟨k', v, h1, h2, h3⟩

theorem den0L_length {j : Nat → Option Nat} : ∀ {cs : List (Bool × List C)} {vs : List Value}, den0L ρ j cs = some vs → vs.length = cs.length
  | [], vs, h => by cases h; rfl
  | c :: cs, vs, h => by
    simp only [den0L] at h
    cases hc : den0 ρ j c with
    | none => rw [hc] at h; cases h
    | some v =>
      cases hl : den0L ρ j cs with
      | none => rw [hc, hl] at h; cases h
      | some l => rw [hc, hl] at h; cases h; simp [den0L_length hl]

def resSem (tmps : Array Value) : ResultVar → Sem Value
  | .tmp t => pure (tmps.getD t undef)
  | .cell a t => do loadVar t (← asAddr (tmps.getD a undef))
theorem results_eq (fn : Func) (tmps : Array Value) : results fn tmps = (do let vs ← fn.results.mapM (resSem tmps); pure (if h : vs.size = 1 then vs[0] else .tuple vs)) := by
  unfold results
  congr 2

theorem resOne_ok (hT : ∀ t i, (t, i) ∈ cx.ty → TIok P t i) {j : Nat → Option Nat} {a : Act} {w : World} {s : St} (h : At ρ n W0 s j a w) {r : ResultVar} {x : Bool × List C} (hx : resOne cx s r = some x) :
    ∃ v, den0 ρ j x = some v ∧ (resSem a.tmps r).run P w = .ok v w := by
  have tmpv : ∀ t u, s.tmps[t]? = some u → u.den ρ j = some (a.tmps.getD t undef) := fun t u hu => h.rel.eval (x := .tmp t) (by rw [← h.len, evS_evF]; exact hu)
  cases r with
  | tmp t =>
    simp only [resOne] at hx
    split at hx
    · rename_i c hc
      cases hx
      exact ⟨_, tmpv t _ hc, by simp [resSem]⟩
    · rename_i cs hc
      cases hx
      exact ⟨_, tmpv t _ hc, by simp [resSem]⟩
    · cases hx
  | cell t ty =>
    simp only [resOne] at hx
    split at hx
    · rename_i b o i hb hi
      obtain ⟨kk, hk, hp⟩ := ptr_of (tmpv t _ hb)
      have ht := hT _ _ (lookN_mem hi)
      split at hx
      · rename_i hagg
        rw [Option.map_eq_some_iff] at hx
        obtain ⟨cs, hcs, rfl⟩ := hx
        obtain ⟨vs, h1, h2⟩ := run_loadCells (P := P) hk i.size o cs hcs w (rowOf_ok h.rel hk i.size o) ⟨kk, o, none⟩ 0 #[] (fun m => by rw [add_none]; simp)
        refine ⟨.agg vs.toArray, by simp [den0, h1], ?_⟩
        simp [resSem, hp, asAddr, Sem.run_bind, loadVar, ht.agg, hagg, ht.size, loadCells, h2]
      · rename_i hagg
        rw [Option.map_eq_some_iff] at hx
        obtain ⟨c, hc, rfl⟩ := hx
        obtain ⟨k', v, h1, h2, h3, _⟩ := ldF_cell h.rel (b := b) (o := o) (c := c) hc
        rw [hk] at h1; cases h1
        have hagg' : i.agg = false := by simpa using hagg
        refine ⟨v, h2, ?_⟩
        simp [resSem, hp, asAddr, Sem.run_bind, loadVar, ht.agg, hagg', load, Sem.run, h3]
    · cases hx

theorem resL_ok (hT : ∀ t i, (t, i) ∈ cx.ty → TIok P t i) {j : Nat → Option Nat} {a : Act} {w : World} {s : St} (h : At ρ n W0 s j a w) : ∀ (l : List ResultVar) (xs : List (Bool × List C)), resL cx s l = some xs →
    ∃ vs, den0L ρ j xs = some vs ∧ vs.length = l.length ∧ (l.mapM (resSem a.tmps)).run P w = .ok vs w
  | [], xs, hx => by cases hx; exact ⟨[], rfl, rfl, by simp⟩
  | r :: l, xs, hx => by
    simp only [resL] at hx
    split at hx
    · rename_i x ys h1 h2
      cases hx
      obtain ⟨v, h3, h4⟩ := resOne_ok hT h h1
      obtain ⟨vs, h5, h6, h7⟩ := resL_ok hT h l ys h2
      refine ⟨v :: vs, by simp [den0L, h3, h5], by simp [h6], ?_⟩
      rw [List.mapM_cons]
      simp only [Sem.run_bind]
      rw [h4]
      simp only [Result.andThen_ok, h7]
      simp
    · cases hx

theorem resOf_ok (hT : ∀ t i, (t, i) ∈ cx.ty → TIok P t i) {j : Nat → Option Nat} {a : Act} {w : World} {s : St} (h : At ρ n W0 s j a w) {fn : Func} {v : V} (hv : resOf cx s fn.results.toList = some v) : ∃ u, v.den ρ j = some u ∧ (results fn a.tmps).run P w = .ok u w := by
  unfold resOf at hv
  cases hx : resL cx s fn.results.toList with
  | none => rw [hx] at hv; cases hv
  | some xs =>
    rw [hx] at hv
    obtain ⟨vs, h1, h2, h3⟩ := resL_ok hT h _ xs hx
    have h4 : (results fn a.tmps).run P w = .ok (if h : vs.toArray.size = 1 then vs.toArray[0] else .tuple vs.toArray) w := by
      rw [results_eq, Sem.run_bind, Array.mapM_eq_mapM_toList]
      rw [show (List.toArray <$> List.mapM (resSem a.tmps) fn.results.toList : Sem (Array Value)) = (do let l ← List.mapM (resSem a.tmps) fn.results.toList; pure l.toArray) from rfl]
      simp [Sem.run_bind, h3]
    rw [h4]
    match xs, vs, h1, hv with
    | [], [], h1, hv => cases hv; exact ⟨_, by simp only [V.den, den0L]; rfl, by simp⟩
    | [(true, cs)], [u], h1, hv =>
      cases hv
      simp only [den0L] at h1
      cases hd : den0 ρ j (true, cs) with
      | none => rw [hd] at h1; cases h1
      | some u' =>
        rw [hd] at h1
        cases h1
        exact ⟨u, hd, by simp⟩
    | [(false, [c])], [u], h1, hv =>
      cases hv
      simp only [den0L] at h1
      cases hd : den0 ρ j (false, [c]) with
      | none => rw [hd] at h1; cases h1
      | some u' =>
        rw [hd] at h1
        cases h1
        exact ⟨u, hd, by simp⟩
    | [(false, [])], _, h1, hv => cases hv
    | [(false, _ :: _ :: _)], _, h1, hv => cases hv
    | x :: y :: zs, vs, h1, hv =>
      have hv' : v = .tup (x :: y :: zs) := by
        revert hv
        rcases x with ⟨_ | _, _ | ⟨_, _ | _⟩⟩ <;> intro hv <;> cases hv <;> rfl
      subst hv'
      have hlen : vs.length ≠ 1 := by
        simp only [den0L] at h1
        split at h1
        · rename_i v0 vs0 hd0 hl0
          cases h1
          split at hl0
          · cases hl0; simp
          · cases hl0
        · cases h1
      exact ⟨.tuple vs.toArray, by simp [V.den, h1], by simp [hlen]⟩
    | [], _ :: _, h1, hv => cases h1
    | [_], [], h1, hv => have := den0L_length h1; simp at this
    | [_], _ :: _ :: _, h1, hv => have := den0L_length h1; simp at this

theorem C.rng_ok {vk : List (Option IntKind)} (hv : Vk ρ vk) {j : Nat → Option Nat} {c : C} {v : Value} (h : c.rng vk = true) (hd : c.den ρ j = some v) : cellIn v = true ∧ (∀ x : V, x = .one c → valIn v = true) ∧ partIn v = true := by
  cases c <;> simp only [C.den, Option.map_eq_some_iff] at hd
  case int k e =>
    cases hd
    have := E.rng_ok hv e h
    exact ⟨this, fun _ _ => this, this⟩
  case ptr b o => obtain ⟨k, _, rfl⟩ := hd; exact ⟨rfl, fun _ _ => rfl, rfl⟩
  all_goals cases hd; exact ⟨rfl, fun _ _ => rfl, rfl⟩
theorem denL_rng {vk : List (Option IntKind)} (hv : Vk ρ vk) {j : Nat → Option Nat} : ∀ {cs : List C} {vs : List Value}, cs.all (C.rng vk) = true → denL ρ j cs = some vs → vs.all cellIn = true
  | [], vs, _, h => by cases h; rfl
  | c :: cs, vs, ha, h => by
    simp only [List.all_cons, Bool.and_eq_true] at ha
    simp only [denL] at h
    cases hc : c.den ρ j with
    | none => rw [hc] at h; cases h
    | some v =>
      cases hl : denL ρ j cs with
      | none => rw [hc, hl] at h; cases h
      | some l =>
        rw [hc, hl] at h; cases h
        simp [(C.rng_ok hv ha.1 hc).1, denL_rng hv ha.2 hl]
theorem den0_rng {vk : List (Option IntKind)} (hv : Vk ρ vk) {j : Nat → Option Nat} {p : Bool × List C} {v : Value} (h : p.2.all (C.rng vk) = true) (hd : den0 ρ j p = some v) : partIn v = true := by
  obtain ⟨t, cs⟩ := p
  cases t with
  | true =>
    simp only [den0, Option.map_eq_some_iff] at hd
    obtain ⟨vs, hvs, rfl⟩ := hd
    exact denL_rng hv h hvs
  | false =>
    match cs, hd with
    | [c], hd =>
      simp only [List.all_cons, List.all_nil, Bool.and_true] at h
      exact (C.rng_ok hv h hd).2.2
theorem den0L_rng {vk : List (Option IntKind)} (hv : Vk ρ vk) {j : Nat → Option Nat} : ∀ {cs : List (Bool × List C)} {vs : List Value}, (cs.all fun p => p.2.all (C.rng vk)) = true → den0L ρ j cs = some vs → vs.all partIn = true
  | [], vs, _, h => by cases h; rfl
  | c :: cs, vs, ha, h => by
    simp only [List.all_cons, Bool.and_eq_true] at ha
    simp only [den0L] at h
    cases hc : den0 ρ j c with
    | none => rw [hc] at h; cases h
    | some v =>
      cases hl : den0L ρ j cs with
      | none => rw [hc, hl] at h; cases h
      | some l =>
        rw [hc, hl] at h; cases h
        simp only [List.all_cons, Bool.and_eq_true]
        exact ⟨den0_rng hv (by simpa using ha.1) hc, den0L_rng hv (by simpa using ha.2) hl⟩
theorem V.rng_ok {vk : List (Option IntKind)} (hv : Vk ρ vk) {j : Nat → Option Nat} {x : V} {v : Value} (h : x.rng vk = true) (hd : x.den ρ j = some v) : valIn v = true := by
  cases x with
  | one c => exact (C.rng_ok hv h hd).2.1 _ rfl
  | agg cs =>
    simp only [V.den, Option.map_eq_some_iff] at hd
    obtain ⟨vs, hvs, rfl⟩ := hd
    exact denL_rng hv h hvs
  | tup vs =>
    simp only [V.den, Option.map_eq_some_iff] at hd
    obtain ⟨us, hus, rfl⟩ := hd
    exact den0L_rng hv h hus

/-- THE WHOLE: a function whose run meets G on each of its ways returns what G says, and leaves what was there. -/
theorem funK_ok (hm : P.follows .mixedOrders = true) (hT : ∀ t i, (t, i) ∈ cx.ty → TIok P t i) (hS : ∀ s ∈ cx.sm, SmOk P sp s) (hkeys : ∀ s ∈ cx.sm, ∀ s' ∈ cx.sm, s.key = s'.key → s = s') {f : Nat} {fn : Func} (hf : P.funcs[f]? = some fn)
    {fuel : Nat} {args : List V} {kw : Kw} {vals : List Value} (hargs : ∀ (i : Nat) x, args[i]? = some x → ∃ u, vals[i]? = some u ∧ x.den ρ (fun _ => none) = some u) (hlen : vals.length = args.length) {X : Value}
    (h : (funK cx fuel fn args kw).holds sp ρ (fun v => v.den ρ (fun _ => none) = some X)) (hg : Good sp cx.sm ρ kw) (w : World) : Calls P f vals.toArray w fun e w' => (e = .returned X ∧ Ext w w') ∧ valIn X = true := by
  unfold funK at h
  split at h
  · rename_i c hc
    refine calls_of_wp hf hc ?_
    have hsz : vals.toArray.size = args.length := by simpa using hlen
    refine codeK_ok (P := P) (ρ := ρ) (n := args.length + (fn.ntmps - args.length)) (W0 := w) hm hT hS hkeys fuel c _ kw _ _ (fun _ => none) _ w h hg ⟨⟨rfl, by simp [hlen], ?_, fun b cs ty hb => (by simp [St.fs] at hb), fun _ _ => rfl, fun b b' k hb => (by cases hb), Ext.refl w⟩, by simp⟩ ?_
    · intro t ht
      rcases Nat.lt_or_ge t args.length with h1 | h1
      · obtain ⟨u, hu, hd⟩ := hargs t args[t] (List.getElem?_eq_getElem h1)
        refine ⟨u, ?_, ?_⟩
        · rw [Array.getElem?_append_left (by simpa [hlen] using h1)]
          simpa using hu
        · simp only [St.fs]
          rw [List.getElem?_append_left h1, List.getElem?_eq_getElem h1]
          exact hd
      · refine ⟨Go.undef, ?_, ?_⟩
        · rw [Array.getElem?_append_right (by simpa [hlen] using h1)]
          rw [Array.getElem?_replicate, if_pos (by rw [hsz]; omega)]
        · simp only [St.fs]
          rw [List.getElem?_append_right h1, List.getElem?_replicate, if_pos (by omega)]
          rfl
    · intro sg s' kw' j' a' w' h' hg' hr'
      have fin : ∀ v, resOf cx s' fn.results.toList = some v → v.rng kw'.vk = true → v.den ρ (fun _ => none) = some X → a'.defers = [] ∧ ∃ v, (results fn a'.tmps).run P w' = .ok v w' ∧ ((Ending.returned v = .returned X ∧ Ext w w') ∧ valIn X = true) := by
        intro v hv hrg hX
        obtain ⟨u, h1, h2⟩ := resOf_ok hT hr' hv
        rw [V.den_sub (fun _ _ hh => by cases hh) hX] at h1
        cases h1
        exact ⟨hr'.rel.defers, X, h2, ⟨rfl, hr'.rel.ext⟩, V.rng_ok hg'.vk hrg hX⟩
      cases sg with
      | exit id => exact h'.elim
      | normal =>
        dsimp only at h'
        split at h'
        · rename_i v hv
          split at h'
          · rename_i hrg; exact fin v hv hrg h'
          · exact h'.elim
        · exact h'.elim
      | ret =>
        dsimp only at h'
        split at h'
        · rename_i v hv
          split at h'
          · rename_i hrg; exact fin v hv hrg h'
          · exact h'.elim
        · exact h'.elim
  · exact h.elim
end
end Go.Proofs.Ytcngfmhhaleoaaa

/- From a run's tree to a contract: numbers for the calls' results; types checked; contracts as entries. Nothing of the program is in here. -/
set_option linter.unusedVariables false
set_option linter.unusedSimpArgs false
namespace Go.Proofs.Ytcngfmhhaleoaaa
open Go.RowKit

/-! ### Scopes -/
def E.sc (n : Nat) : E → Bool
  | .lit _ | .nil | .tt _ => true
  | .var i | .bvar i => Nat.blt i n
  | .bin _ _ a b | .mn a b | .mx a b | .cons a b | .consb a b | .lt a b | .eq a b | .and a b | .beq a b => a.sc n && b.sc n
  | .conv _ a | .not a => a.sc n
def C.sc (n : Nat) : C → Bool
  | .int _ e | .bool e => e.sc n
  | _ => true
def V.sc (n : Nat) : V → Bool
  | .one c => c.sc n
  | .agg cs => cs.all (C.sc n)
  | .tup vs => vs.all fun p => p.2.all (C.sc n)
def Tr.sc : Nat → Tr → Bool
  | _, .leaf _ | _, .panic | _, .stuck _ => true
  | n, .br e t f => e.sc n && (t.sc n && f.sc n)
  | n, .call _ ks args v0 t => args.sc n && (Nat.beq v0 n && t.sc (n + ks.length))
/-- What is to be shown of the tree: the calls' results are given, by equations. -/
def Tr.asks (sp : Spec) (ρ : Env) (G : V → Prop) : Tr → Prop
  | .leaf v => G v
  | .panic => False
  | .stuck _ => False
  | .br e t f => (e.B ρ = true → t.asks sp ρ G) ∧ (e.B ρ = false → f.asks sp ρ G)
  | .call key ks args v0 t => eqs sp ρ key v0 (args.L ρ) 0 ks → t.asks sp ρ G

def Ag (n : Nat) (ρ ρ' : Env) : Prop := ∀ i, i < n → ρ.i i = ρ'.i i ∧ ρ.b i = ρ'.b i
theorem Ag.refl (n : Nat) (ρ : Env) : Ag n ρ ρ := fun _ _ => ⟨rfl, rfl⟩
theorem E.sc_eq {n : Nat} {ρ ρ' : Env} (h : Ag n ρ ρ') : ∀ e : E, e.sc n = true → e.I ρ = e.I ρ' ∧ e.B ρ = e.B ρ' ∧ e.L ρ = e.L ρ' := by
  intro e
  induction e <;> intro hs <;> simp only [E.sc, Bool.and_eq_true] at hs
  case var i => exact ⟨(h i (by simpa [Nat.blt_eq] using hs)).1, rfl, rfl⟩
  case bvar i => exact ⟨rfl, (h i (by simpa [Nat.blt_eq] using hs)).2, rfl⟩
  case lit => exact ⟨rfl, rfl, rfl⟩
  case nil => exact ⟨rfl, rfl, rfl⟩
  case tt => exact ⟨rfl, rfl, rfl⟩
  case conv ih => simp [E.I, E.B, E.L, ih hs]
  case not ih => simp [E.I, E.B, E.L, ih hs]
  all_goals
    rename_i ih1 ih2
    simp [E.I, E.B, E.L, ih1 hs.1, ih2 hs.2]

theorem eqs_of {sp : Spec} {ρ : Env} {key v0 : Nat} {xs : List Int} : ∀ (ks : List CK) (n : Nat), (∀ m, n ≤ m → m < n + ks.length → ρ.i (v0 + m) = sp.I key m xs ∧ ρ.b (v0 + m) = sp.B key m xs) → eqs sp ρ key v0 xs n ks
  | [], _, _ => trivial
  | .int _ :: ks, n, h => ⟨(h n (Nat.le_refl _) (by simp)).1, eqs_of ks (n + 1) (fun m h1 h2 => h m (by omega) (by simp at h2 ⊢; omega))⟩
  | .bool :: ks, n, h => ⟨(h n (Nat.le_refl _) (by simp)).2, eqs_of ks (n + 1) (fun m h1 h2 => h m (by omega) (by simp at h2 ⊢; omega))⟩
  | .fn _ :: ks, n, h => eqs_of ks (n + 1) (fun m h1 h2 => h m (by omega) (by simp at h2 ⊢; omega))
  | .lit _ _ :: ks, n, h => eqs_of ks (n + 1) (fun m h1 h2 => h m (by omega) (by simp at h2 ⊢; omega))

theorem env_exists {sp : Spec} {G : Env → V → Prop} : ∀ (t : Tr) (n : Nat) (ρ : Env), t.sc n = true → (∀ ρ', Ag n ρ ρ' → t.asks sp ρ' (G ρ')) → ∃ ρ', Ag n ρ ρ' ∧ t.holds sp ρ' (G ρ') := by
  intro t
  induction t with
  | leaf v => intro n ρ _ h; exact ⟨ρ, Ag.refl n ρ, h ρ (Ag.refl n ρ)⟩
  | panic => intro n ρ _ h; exact (h ρ (Ag.refl n ρ)).elim
  | stuck m => intro n ρ _ h; exact (h ρ (Ag.refl n ρ)).elim
  | br e t f iht ihf =>
    intro n ρ hs h
    simp only [Tr.sc, Bool.and_eq_true] at hs
    cases hb : e.B ρ with
    | true =>
      obtain ⟨ρ', h1, h2⟩ := iht n ρ hs.2.1 (fun ρ' ha => (h ρ' ha).1 (by rw [← (E.sc_eq ha e hs.1).2.1]; exact hb))
      refine ⟨ρ', h1, fun _ => h2, fun hf => ?_⟩
      rw [← (E.sc_eq h1 e hs.1).2.1, hb] at hf
      cases hf
    | false =>
      obtain ⟨ρ', h1, h2⟩ := ihf n ρ hs.2.2 (fun ρ' ha => (h ρ' ha).2 (by rw [← (E.sc_eq ha e hs.1).2.1]; exact hb))
      refine ⟨ρ', h1, fun hf => ?_, fun _ => h2⟩
      rw [← (E.sc_eq h1 e hs.1).2.1, hb] at hf
      cases hf
  | call key ks args v0 t ih =>
    intro n ρ hs h
    simp only [Tr.sc, Bool.and_eq_true] at hs
    obtain ⟨ha, hv, ht⟩ := hs
    have hv' := Nat.eq_of_beq_eq_true hv
    subst hv'
    let ρ1 : Env := ⟨fun i => if v0 ≤ i then sp.I key (i - v0) (args.L ρ) else ρ.i i, fun i => if v0 ≤ i then sp.B key (i - v0) (args.L ρ) else ρ.b i⟩
    have ag1 : ∀ ρ', Ag (v0 + ks.length) ρ1 ρ' → Ag v0 ρ ρ' := fun ρ' hag i hi => by
      have := hag i (by omega)
      simp only [ρ1, if_neg (show ¬ v0 ≤ i by omega)] at this
      exact this
    have he : ∀ ρ', Ag (v0 + ks.length) ρ1 ρ' → eqs sp ρ' key v0 (args.L ρ') 0 ks := fun ρ' hag => by
      refine eqs_of ks 0 (fun m h1 h2 => ?_)
      have := hag (v0 + m) (by omega)
      simp only [ρ1, if_pos (Nat.le_add_right v0 m), Nat.add_sub_cancel_left] at this
      rw [← this.1, ← this.2, (E.sc_eq (ag1 ρ' hag) args ha).2.2]
      exact ⟨rfl, rfl⟩
    obtain ⟨ρ', h1, h2⟩ := ih (v0 + ks.length) ρ1 ht (fun ρ' hag => h ρ' (ag1 ρ' hag) (he ρ' hag))
    exact ⟨ρ', ag1 ρ' h1, he ρ' h1, h2⟩

/-! ### Types -/
def cSame : C → Value → Bool
  | .int k (.lit z), .int k' z' => kdSame k k' && zSame z z'
  | .bool (.tt b), .bool b' => b == b'
  | .nilp, .pointer none => true
  | _, _ => false
def csSame : List C → List Value → Bool
  | [], [] => true
  | c :: cs, v :: vs => cSame c v && csSame cs vs
  | _, _ => false
theorem cSame_ok {c : C} {v : Value} (h : cSame c v = true) (ρ : Env) (j : Nat → Option Nat) : c.den ρ j = some v := by
  unfold cSame at h
  split at h
  · simp only [Bool.and_eq_true] at h
    rw [kdSame_eq h.1, zSame_eq h.2]; rfl
  · rw [beq_iff_eq] at h; rw [h]; rfl
  · rfl
  · cases h
theorem csSame_ok (ρ : Env) (j : Nat → Option Nat) : ∀ {cs : List C} {vs : List Value}, csSame cs vs = true → denL ρ j cs = some vs
  | [], [], _ => rfl
  | c :: cs, v :: vs, h => by
    simp only [csSame, Bool.and_eq_true] at h
    simp [denL, cSame_ok h.1, csSame_ok ρ j h.2]

def ckFields (P : Program) : List Field → List (Nat × Nat) → Bool
  | [], [] => true
  | f :: fs, (off, ft) :: l => Nat.beq f.offset off && (Nat.beq f.type ft && ((match P.info? ft with | some i => !Nat.beq i.size 0 | none => false) && ckFields P fs l))
  | _, _ => false
def ckTI (P : Program) (t : Nat) (i : TI) : Bool :=
  match P.info? t, P.underlying t with
  | some inf, some d =>
    Nat.beq inf.size i.size && ((match inf.zero with | some z => csSame i.zero z.cells.toList | none => false) &&
    (match d with
      | .struct fs => i.agg && (i.arr.isNone && (i.ik.isNone && (!i.isb && ckFields P fs.toList i.fields)))
      | .array n e => i.agg && ((match i.arr with | some (m, e') => Nat.beq n m && Nat.beq e e' | none => false) && (i.ik.isNone && (!i.isb && i.fields.isEmpty)))
      | .int k => !i.agg && (i.arr.isNone && ((match i.ik with | some k' => kdSame k k' | none => false) && (!i.isb && i.fields.isEmpty)))
      | .bool => !i.agg && (i.arr.isNone && (i.ik.isNone && i.fields.isEmpty))
      | _ => !i.agg && (i.arr.isNone && (i.ik.isNone && (!i.isb && i.fields.isEmpty)))))
  | _, _ => false

theorem ckFields_at {P : Program} : ∀ {fs : List Field} {l : List (Nat × Nat)}, ckFields P fs l = true → ∀ (f off ft : Nat), l[f]? = some (off, ft) → ∃ x, fs[f]? = some x ∧ x.offset = off ∧ x.type = ft ∧ ∃ i, P.info? ft = some i ∧ i.size ≠ 0
  | [], [], _, f, off, ft, h => by simp at h
  | x :: fs, (off', ft') :: l, hc, f, off, ft, h => by
    simp only [ckFields, Bool.and_eq_true] at hc
    cases f with
    | zero =>
      simp only [List.getElem?_cons_zero, Option.some.injEq, Prod.mk.injEq] at h
      obtain ⟨rfl, rfl⟩ := h
      refine ⟨x, rfl, Nat.eq_of_beq_eq_true hc.1, Nat.eq_of_beq_eq_true hc.2.1, ?_⟩
      have h3 := hc.2.2.1
      split at h3
      · rename_i i hi
        refine ⟨i, hi, fun e => ?_⟩
        rw [e] at h3
        simp at h3
      · cases h3
    | succ f => exact ckFields_at hc.2.2.2 f off ft (by simpa using h)

theorem ckFields_eq {P : Program} : ∀ {fs : List Field} {l : List (Nat × Nat)}, ckFields P fs l = true → fs.map (fun f => (f.offset, f.type)) = l
  | [], [], _ => rfl
  | x :: fs, (off', ft') :: l, hc => by
    simp only [ckFields, Bool.and_eq_true] at hc
    rw [List.map_cons, ckFields_eq hc.2.2.2, Nat.eq_of_beq_eq_true hc.1, Nat.eq_of_beq_eq_true hc.2.1]
theorem TIok_of {P : Program} {t : Nat} {i : TI} (h : ckTI P t i = true) (heq : i.eqok = true → ∀ vs us, kindsV vs i.zero → kindsV us i.zero → ∀ w, (Op.equal t (.agg vs.toArray) (.agg us.toArray)).run P w = .ok (eqVs vs us) w) (hgrd : i.eqok = true → P.eqGuardType P.depth t = false) : TIok P t i := by
  unfold ckTI at h
  split at h
  · rename_i inf d hinf hd
    simp only [Bool.and_eq_true] at h
    obtain ⟨h1, h2, h3⟩ := h
    have hsz := Nat.eq_of_beq_eq_true h1
    have hti : ∀ w, (typeInfo t).run P w = .ok inf w := fun w => by simp [typeInfo, program, Sem.run_bind, Sem.run, hinf]
    refine ⟨?_, fun w => by simp [sizeOf, Sem.run_bind, hti, hsz], ?_, ?_, ?_, ?_, ?_, ?_, ⟨d, hd⟩, heq, hgrd, ?_⟩
    · intro w
      unfold isAgg
      rw [Sem.run_bind, run_underlying hd]
      cases d <;> simp_all
    · split at h2
      · rename_i z hz
        exact ⟨z, fun w => by simp [zeroValue, Sem.run_bind, hti, hz], fun ρ j => csSame_ok ρ j h2⟩
      · cases h2
    · intro f off ft hf w k o
      cases d <;> simp_all
      rename_i fs
      obtain ⟨x, hx, rfl, rfl, inf', hi, hne⟩ := ckFields_at (P := P) h3.2.2.2.2 f off ft hf
      have hx' : fs[f]? = some x := by rw [← Array.getElem?_toList]; exact hx
      have hs : ∀ w, (sizeOf x.type).run P w = .ok inf'.size w := fun w => by simp [sizeOf, typeInfo, program, Sem.run_bind, Sem.run, hi]
      simp [Instr.fieldAt, run_underlying hd, Sem.run_bind, hx', Instr.sureAddr, fieldPlace, hs, hne, add_none]
    · intro f off ft hf w cs
      cases d <;> simp_all
      rename_i fs
      obtain ⟨x, hx, rfl, rfl, inf', hi, hne⟩ := ckFields_at (P := P) h3.2.2.2.2 f off ft hf
      have hx' : fs[f]? = some x := by rw [← Array.getElem?_toList]; exact hx
      simp [Instr.field, run_underlying hd, Sem.run_bind, hx', asAgg]
    · intro n e ha
      cases d <;> simp_all
    · intro h1 h2
      cases d <;> simp_all
      exact ckFields_eq (P := P) h3.2.2
    · intro k hk
      cases d <;> simp_all
      rw [kdSame_eq h3.2.2.1]
    · intro hb
      cases d <;> simp_all
  · cases h

theorem kindsV_of : ∀ {z z' : List C} {vs : List Value}, kindsC z z' = true → kindsV vs z → kindsV vs z'
  | [], [], vs, _, h => h
  | .int k a :: l, .int k' b :: r, vs, hk, h => by
    simp only [kindsC, Bool.and_eq_true] at hk
    obtain ⟨x, us, rfl, h1, h2⟩ := kindsV_int h
    exact ⟨kdSame_eq hk.1, h1, kindsV_of hk.2 h2⟩
  | .bool a :: l, .bool b :: r, vs, hk, h => by
    simp only [kindsC] at hk
    obtain ⟨x, us, rfl, h2⟩ := kindsV_bool h
    exact kindsV_of (z := l) (z' := r) hk h2
def litsOf : List Value → List Lit
  | .int k x :: l => .int k x :: litsOf l
  | .bool b :: l => .bool b :: litsOf l
  | _ => []
theorem lits_iff : ∀ {z : List C} {vs us : List Value}, kindsV vs z → kindsV us z → (eqVs vs us = true ↔ litsOf vs = litsOf us)
  | [], vs, us, h, h' => by rw [kindsV_nil h, kindsV_nil h']; simp [eqVs]
  | .int k e :: r, vs, us, h, h' => by
    obtain ⟨x, l, rfl, _, h2⟩ := kindsV_int h
    obtain ⟨y, m, rfl, _, g2⟩ := kindsV_int h'
    simp [eqVs, litsOf, lits_iff h2 g2]
  | .bool e :: r, vs, us, h, h' => by
    obtain ⟨x, l, rfl, h2⟩ := kindsV_bool h
    obtain ⟨y, m, rfl, g2⟩ := kindsV_bool h'
    simp [eqVs, litsOf, lits_iff h2 g2]
  | .ptr _ _ :: _, vs, us, h, _ | .fn _ :: _, vs, us, h, _ | .nilp :: _, vs, us, h, _ | .undef :: _, vs, us, h, _ => by
    cases vs with
    | nil => exact h.elim
    | cons v l => cases v <;> exact h.elim
/-- Equality of structs and arrays of whole numbers and truth values. -/
theorem eq_of_keys {P : Program} {t : Nat} {z : List C} (hk : P.keyTypeAt 6 t = true) (hf : ∀ vs, kindsV vs z → (Value.agg vs.toArray).formed P t = true) (D : Nat) (hl : ∀ vs, kindsV vs z → P.keyLits D t vs = some (litsOf vs)) (vs us : List Value) (hv : kindsV vs z) (hu : kindsV us z) (w : World) :
    (Op.equal t (.agg vs.toArray) (.agg us.toArray)).run P w = .ok (eqVs vs us) w := by
  obtain ⟨r, hr, hiff⟩ := run_equalIn_deep (P := P) 9994 6 t hk w D D (.agg vs.toArray) (.agg us.toArray) _ _ (hf vs hv) (hf us hu) (by simpa [Value.cells] using hl vs hv) (by simpa [Value.cells] using hl us hu)
  unfold Op.equal Op.maxDepth
  rw [show (10000 : Nat) = 9994 + 6 from rfl, hr]
  congr 1
  rw [Bool.eq_iff_iff, hiff, lits_iff hv hu]
theorem all_at {f : Nat → TI → Bool} {l : List (Nat × TI)} (h : (l.all fun p => f p.1 p.2) = true) {t : Nat} {i : TI} (hm : (t, i) ∈ l) : f t i = true := List.all_eq_true.1 h (t, i) hm

/-! ### The whole -/
def vkOf (vs : List (Option IntKind)) : Kw := ⟨[], [], vs⟩
theorem fun_calls {P : Program} {sp : Spec} {cx : Cx} (hm : P.follows .mixedOrders = true) (hT : ∀ t i, (t, i) ∈ cx.ty → TIok P t i) (hS : ∀ s ∈ cx.sm, SmOk P sp s) (hkeys : ∀ s ∈ cx.sm, ∀ s' ∈ cx.sm, s.key = s'.key → s = s') {f : Nat} {fn : Func} (hf : P.funcs[f]? = some fn)
    {fuel : Nat} {args : List V} {pc : List (E × Bool)} {vk : List (Option IntKind)} {vals : List Value} {X : Value} {t : Tr} (ρ : Env) (ht : funK cx fuel fn args ⟨pc, [], vk⟩ = t) (hsc : t.sc vk.length = true) (hvk : Vk ρ vk) (hpc : (pc.all fun p => p.1.sc vk.length) = true) (hp : ∀ p ∈ pc, p.1.B ρ = p.2)
    (hargs : ∀ ρ', Ag vk.length ρ ρ' → den0L ρ' (fun _ => none) (args.map fun | .one c => (false, [c]) | .agg cs => (true, cs) | .tup _ => (false, [])) = some vals)
    (h : ∀ ρ', Ag vk.length ρ ρ' → t.asks sp ρ' (fun v => v.den ρ' (fun _ => none) = some X)) : (∀ w, Calls P f vals.toArray w fun e w' => e = .returned X ∧ Ext w w') ∧ valIn X = true := by
  have main : ∀ w, Calls P f vals.toArray w fun e w' => (e = .returned X ∧ Ext w w') ∧ valIn X = true := by
   intro w
   obtain ⟨ρ', h1, h2⟩ := env_exists (G := fun ρ' v => v.den ρ' (fun _ => none) = some X) t vk.length ρ hsc h
   rw [← ht] at h2
   have ha := hargs ρ' h1
   refine funK_ok (ρ := ρ') (args := args) (vals := vals) hm hT hS hkeys hf (fun i x hx => ?_) (by simpa using den0L_length ha) h2 ⟨fun p hp' => ?_, fun n k hk => ?_, fun p hp' => by cases hp'⟩ w
   · obtain ⟨u, hu, hd⟩ := den0L_get ha i _ (by rw [List.getElem?_map, hx]; rfl)
     refine ⟨u, hu, ?_⟩
     cases x with
     | one c => exact hd
     | agg cs => exact hd
     | tup vs => cases hd
   · have := List.all_eq_true.1 hpc p hp'
     rw [← (E.sc_eq h1 p.1 this).2.1]
     exact hp p hp'
   · have hlt : n < vk.length := by
       rcases Nat.lt_or_ge n vk.length with h3 | h3
       · exact h3
       · simp only at hk; rw [List.getElem?_eq_none h3] at hk; cases hk
     rw [← (h1 n hlt).1]
     exact hvk n k hk
  refine ⟨fun w => (main w).mono fun e w' h => h.1, ?_⟩
  obtain ⟨e, w', fr, hr, _⟩ := main default []
  exact hr.2

theorem b01 (t : Bool) : ((if t = true then (1 : Int) else 0) == 1) = t := by cases t <;> rfl

/-! ### Contracts as entries -/
section
variable {xs r : List Int} {vals vs : List Value} {v : Value} {ss : List (Bool × List CK)} {ks : List CK} {k : IntKind}
theorem shN (h : shVal [] xs = some vals) : xs = [] ∧ vals = [] := by
  cases xs with
  | nil => cases h; exact ⟨rfl, rfl⟩
  | cons => cases h
theorem shA (h : shVal ((true, ks) :: ss) xs = some vals) : ∃ vs r us, cksVal ks xs = some (vs, r) ∧ shVal ss r = some us ∧ vals = .agg vs.toArray :: us := by
  simp only [shVal, shOne] at h
  cases hc : cksVal ks xs with
  | none => rw [hc] at h; cases h
  | some p =>
    obtain ⟨vs, r⟩ := p
    rw [hc] at h
    simp only [Option.map_some, Option.map_eq_some_iff] at h
    obtain ⟨us, h1, rfl⟩ := h
    exact ⟨vs, r, us, rfl, h1, rfl⟩
theorem shO {c : CK} (h : shVal ((false, [c]) :: ss) xs = some vals) : ∃ v r us, ckVal c xs = some (v, r) ∧ shVal ss r = some us ∧ vals = v :: us := by
  simp only [shVal, shOne] at h
  cases hc : ckVal c xs with
  | none => rw [hc] at h; cases h
  | some p =>
    obtain ⟨v, r⟩ := p
    rw [hc] at h
    simp only [Option.map_eq_some_iff] at h
    obtain ⟨us, h1, rfl⟩ := h
    exact ⟨v, r, us, rfl, h1, rfl⟩
theorem ckI (h : ckVal (.int k) xs = some (v, r)) : ∃ x, xs = x :: r ∧ v = .int k x ∧ inK k x = true := by
  cases xs with
  | nil => cases h
  | cons x xs =>
    simp only [ckVal] at h
    split at h
    · rename_i hx
      cases h
      exact ⟨x, rfl, rfl, hx⟩
    · cases h
theorem ckB (h : ckVal .bool xs = some (v, r)) : ∃ x, xs = x :: r ∧ v = .bool (x == 1) := by
  cases xs with
  | nil => cases h
  | cons x xs => cases h; exact ⟨x, rfl, rfl⟩
theorem ckF {g : Nat} (h : ckVal (.fn g) xs = some (v, r)) : xs = r ∧ v = .func (.func g) #[] #[] := by
  simp only [ckVal, Option.some.injEq, Prod.mk.injEq] at h
  exact ⟨h.2, h.1.symm⟩
theorem ckT {z : Int} (h : ckVal (.lit k z) xs = some (v, r)) : xs = r ∧ v = .int k z := by
  simp only [ckVal, Option.some.injEq, Prod.mk.injEq] at h
  exact ⟨h.2, h.1.symm⟩
theorem cksN (h : cksVal [] xs = some (vs, r)) : xs = r ∧ vs = [] := by
  cases h; exact ⟨rfl, rfl⟩
theorem cksC {c : CK} (h : cksVal (c :: ks) xs = some (vs, r)) : ∃ v r' us, ckVal c xs = some (v, r') ∧ cksVal ks r' = some (us, r) ∧ vs = v :: us := by
  simp only [cksVal] at h
  split at h
  · rename_i v r' hv
    split at h
    · rename_i us r'' hu
      cases h
      exact ⟨v, r', us, hv, hu, rfl⟩
    · cases h
  · cases h
end

theorem resCells_rng {ρ : Env} {v0 : Nat} : ∀ (ks : List CK) (n : Nat) (vs : List Value), denL ρ (fun _ => none) (resCells v0 n ks) = some vs → vs.all cellIn = true → ∀ (m : Nat) k, ks[m]? = some (.int k) → inK k (ρ.i (v0 + (n + m))) = true
  | [], _, _, _, _, m, k, hm => by simp at hm
  | c :: ks, n, vs, h, ha, m, k, hm => by
    have step : ∃ u us, vs = u :: us ∧ (∀ k', c = .int k' → u = .int k' (ρ.i (v0 + n))) ∧ denL ρ (fun _ => none) (resCells v0 (n + 1) ks) = some us := by
      cases c <;> simp only [resCells, denL, C.den] at h <;> (split at h <;> first | cases h | skip)
      all_goals
        rename_i hu hus
        cases hu
        refine ⟨_, _, rfl, fun k' hk' => ?_, hus⟩
        cases hk'
        try rfl
    obtain ⟨u, us, rfl, h1, h2⟩ := step
    simp only [List.all_cons, Bool.and_eq_true] at ha
    cases m with
    | zero =>
      simp only [List.getElem?_cons_zero, Option.some.injEq] at hm
      have := h1 k hm
      rw [this] at ha
      exact ha.1
    | succ m =>
      have := resCells_rng ks (n + 1) us h2 ha.2 m k (by simpa using hm)
      rw [show n + (m + 1) = n + 1 + m by omega]
      exact this
theorem resParts_rng {ρ : Env} {v0 : Nat} : ∀ (l : List (Bool × List CK)) (n : Nat) (vs : List Value), den0L ρ (fun _ => none) (resParts v0 n l) = some vs → vs.all partIn = true → ∀ (m : Nat) k, (l.flatMap (·.2))[m]? = some (.int k) → inK k (ρ.i (v0 + (n + m))) = true
  | [], _, _, _, _, m, k, hm => by simp at hm
  | (t, ks) :: l, n, vs, h, ha, m, k, hm => by
    simp only [resParts, den0L] at h
    split at h
    · rename_i u us hu hus
      cases h
      simp only [List.all_cons, Bool.and_eq_true] at ha
      rw [List.flatMap_cons] at hm
      rcases Nat.lt_or_ge m ks.length with hlt | hge
      · rw [List.getElem?_append_left hlt] at hm
        cases t with
        | true =>
          simp only [den0, Option.map_eq_some_iff] at hu
          obtain ⟨ws, hws, rfl⟩ := hu
          exact resCells_rng ks n ws hws ha.1 m k hm
        | false =>
          have hone : ∃ w, denL ρ (fun _ => none) (resCells v0 n ks) = some [w] ∧ partIn w = true ∧ u = w := by
            unfold den0 at hu
            split at hu
            · rename_i he; cases he
            · rename_i c he
              simp only [Prod.mk.injEq, true_and] at he
              refine ⟨u, ?_, ha.1, rfl⟩
              rw [he]
              simp [denL, hu]
            · cases hu
          obtain ⟨w, h1, h2, rfl⟩ := hone
          refine resCells_rng ks n [u] h1 ?_ m k hm
          have hcell : cellIn u = true := by
            cases u <;> first | exact h2 | rfl
          simp [hcell]
      · rw [List.getElem?_append_right hge] at hm
        have := resParts_rng l (n + ks.length) us hus ha.2 (m - ks.length) k hm
        rw [show n + m = n + ks.length + (m - ks.length) by omega]
        exact this
    · cases h

def keysB : List Sm → Bool
  | [] => true
  | s :: l => (l.all fun x => !Nat.beq x.key s.key) && keysB l
theorem keys_of : ∀ {l : List Sm}, keysB l = true → ∀ s ∈ l, ∀ s' ∈ l, s.key = s'.key → s = s'
  | [], _, s, hs, _, _, _ => by cases hs
  | x :: l, h, s, hs, s', hs', he => by
    simp only [keysB, Bool.and_eq_true, List.all_eq_true, Bool.not_eq_true'] at h
    rcases List.mem_cons.1 hs with rfl | hs <;> rcases List.mem_cons.1 hs' with rfl | hs'
    · rfl
    · have := h.1 s' (by assumption)
      rw [he] at this
      simp at this
    · have := h.1 s (by assumption)
      rw [he] at this
      simp at this
    · exact keys_of h.2 s (by assumption) s' (by assumption) he
theorem run_enter {P : Program} {f : FuncId} {fn : Func} (hf : P.funcs[f]? = some fn) (hname : (fn.name == "runtime.NumGoroutine") = false) (hb : fn.body.isNone = false) (args : Array Value) (w : World) : (callFunc f args).run P w = .ok (.enter f args) w := by
  have h1 : fn.name ≠ "runtime.NumGoroutine" := by simpa using hname
  cases hc : fn.body with
  | none => rw [hc] at hb; cases hb
  | some c => simp [callFunc, hf, h1, hc, program, Sem.run_bind, Sem.run]

theorem SmOk.of {P : Program} {sp : Spec} {s : Sm} (hrun : ((∀ args w, (callFunc s.f args).run P w = .ok (.enter s.f args) w) ∧ ∀ xs vals, shVal s.args xs = some vals → ∃ X, ((∀ w, Calls P s.f vals.toArray w fun e w' => e = .returned X ∧ Ext w w') ∧ valIn X = true) ∧ ∀ (ρ : Env) v0, eqs sp ρ s.key v0 xs 0 s.ks → (resV s v0).den ρ (fun _ => none) = some X) ∨
      ∀ xs vals, shVal s.args xs = some vals → ∃ X, ((∀ w, (callFunc s.f vals.toArray).run P w = .ok (.value X) w) ∧ valIn X = true) ∧ ∀ (ρ : Env) v0, eqs sp ρ s.key v0 xs 0 s.ks → (resV s v0).den ρ (fun _ => none) = some X)
    (hshape : s.tup = true ∨ (∃ ks, s.res = [(true, ks)]) ∨ ∃ c, s.res = [(false, [c])]) : SmOk P sp s := by
  have hX : ∀ xs vals, shVal s.args xs = some vals → ∃ X, valIn X = true ∧ ∀ (ρ : Env) v0, eqs sp ρ s.key v0 xs 0 s.ks → (resV s v0).den ρ (fun _ => none) = some X := by
    intro xs vals h
    rcases hrun with ⟨_, hc⟩ | hd
    · obtain ⟨X, ⟨_, h1⟩, h2⟩ := hc xs vals h; exact ⟨X, h1, h2⟩
    · obtain ⟨X, ⟨_, h1⟩, h2⟩ := hd xs vals h; exact ⟨X, h1, h2⟩
  refine ⟨?_, fun xs vals h ρ v0 he n k hn => ?_⟩
  · rcases hrun with ⟨hen, hc⟩ | hd
    · refine .inl ⟨hen, fun xs vals h w => ?_⟩
      obtain ⟨X, ⟨h1, _⟩, h2⟩ := hc xs vals h
      exact (h1 w).mono fun e w' he => ⟨⟨X, he.1, h2⟩, he.2⟩
    · refine .inr (fun xs vals h w => ?_)
      obtain ⟨X, ⟨h1, _⟩, h2⟩ := hd xs vals h
      exact ⟨X, h1 w, h2⟩
  · obtain ⟨X, h1, h2⟩ := hX xs vals h
    have h3 := h2 ρ v0 he
    unfold resV at h3
    unfold Sm.ks at hn
    have main : ∀ vs, den0L ρ (fun _ => none) (resParts v0 0 s.res) = some vs → vs.all partIn = true → inK k (ρ.i (v0 + n)) = true := fun vs h4 h5 => by
      have := resParts_rng s.res 0 vs h4 h5 n k hn
      simpa using this
    rcases hshape with ht | ⟨ks, hr⟩ | ⟨c, hr⟩
    · rw [if_pos ht] at h3
      simp only [V.den, Option.map_eq_some_iff] at h3
      obtain ⟨vs, h4, rfl⟩ := h3
      exact main vs h4 (by simpa [valIn] using h1)
    · by_cases ht : s.tup = true
      · rw [if_pos ht] at h3
        simp only [V.den, Option.map_eq_some_iff] at h3
        obtain ⟨vs, h4, rfl⟩ := h3
        exact main vs h4 (by simpa [valIn] using h1)
      · rw [if_neg ht] at h3
        refine main [X] ?_ (by
          have : partIn X = true := by
            cases X <;> first | exact h1 | rfl
          simp [this])
        rw [hr] at h3 ⊢
        simp only [resParts, den0L, den0] at h3 ⊢
        simp only [V.den] at h3
        rw [h3]
    · by_cases ht : s.tup = true
      · rw [if_pos ht] at h3
        simp only [V.den, Option.map_eq_some_iff] at h3
        obtain ⟨vs, h4, rfl⟩ := h3
        exact main vs h4 (by simpa [valIn] using h1)
      · rw [if_neg ht] at h3
        refine main [X] ?_ (by
          have : partIn X = true := by
            cases X <;> first | exact h1 | rfl
          simp [this])
        rw [hr] at h3 ⊢
        cases c <;> simp only [resParts, resCells, den0L, den0] at h3 ⊢ <;> simp only [V.den] at h3 <;> rw [h3]
end Go.Proofs.Ytcngfmhhaleoaaa
