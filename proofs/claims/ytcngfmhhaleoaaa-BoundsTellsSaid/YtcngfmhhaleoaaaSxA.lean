/- Expressions over whole numbers and truth values, cells, values and states of a symbolic run, and what they stand for. Nothing of the program is in here. -/
import Derived.Test.YtcngfmhhaleoaaaLib
set_option linter.unusedVariables false
set_option linter.unusedSimpArgs false
namespace Go.Proofs.Ytcngfmhhaleoaaa
open Go.RowKit

/-- Expressions: numbers, truth values and rows of numbers in one type. -/
inductive E where
  | lit (z : Int)
  | var (n : Nat)
  | bin (op : BinOp) (k : IntKind) (a b : E)
  | conv (k : IntKind) (a : E)
  | mn (a b : E)
  | mx (a b : E)
  | nil
  | cons (a t : E)
  | consb (b t : E)
  | tt (b : Bool)
  | bvar (n : Nat)
  | lt (a b : E)
  | eq (a b : E)
  | not (a : E)
  | and (a b : E)
  | beq (a b : E)
  deriving Repr, Inhabited

def opSame : BinOp → BinOp → Bool
  | .add, .add | .sub, .sub | .mul, .mul | .quo, .quo | .rem, .rem | .and, .and | .or, .or | .xor, .xor | .shl, .shl | .shr, .shr | .andNot, .andNot => true
  | _, _ => false
def kdSame : IntKind → IntKind → Bool
  | .i8, .i8 | .i16, .i16 | .i32, .i32 | .i64, .i64 | .u8, .u8 | .u16, .u16 | .u32, .u32 | .u64, .u64 => true
  | _, _ => false
theorem opSame_eq {a b : BinOp} (h : opSame a b = true) : a = b := by cases a <;> cases b <;> first | rfl | cases h
theorem kdSame_eq {a b : IntKind} (h : kdSame a b = true) : a = b := by cases a <;> cases b <;> first | rfl | cases h
def zSame : Int → Int → Bool
  | .ofNat a, .ofNat b => Nat.beq a b
  | .negSucc a, .negSucc b => Nat.beq a b
  | _, _ => false
theorem zSame_eq {a b : Int} (h : zSame a b = true) : a = b := by
  cases a <;> cases b <;> simp [zSame] at h <;> simp [h]
theorem zSame_iff {a b : Int} : zSame a b = (a == b) := by
  cases h : zSame a b with
  | true => rw [zSame_eq h]; simp
  | false =>
    symm
    rw [beq_eq_false_iff_ne]
    rintro rfl
    cases a <;> simp [zSame] at h

def E.same : E → E → Bool
  | .lit a, x => match x with | .lit b => zSame a b | _ => false
  | .var a, x => match x with | .var b => Nat.beq a b | _ => false
  | .bin o k a b, x => match x with | .bin o' k' a' b' => opSame o o' && (kdSame k k' && (E.same a a' && E.same b b')) | _ => false
  | .conv k a, x => match x with | .conv k' a' => kdSame k k' && E.same a a' | _ => false
  | .mn a b, x => match x with | .mn a' b' => E.same a a' && E.same b b' | _ => false
  | .mx a b, x => match x with | .mx a' b' => E.same a a' && E.same b b' | _ => false
  | .nil, x => match x with | .nil => true | _ => false
  | .cons a b, x => match x with | .cons a' b' => E.same a a' && E.same b b' | _ => false
  | .consb a b, x => match x with | .consb a' b' => E.same a a' && E.same b b' | _ => false
  | .tt a, x => match x with | .tt b => a == b | _ => false
  | .bvar a, x => match x with | .bvar b => Nat.beq a b | _ => false
  | .lt a b, x => match x with | .lt a' b' => E.same a a' && E.same b b' | _ => false
  | .eq a b, x => match x with | .eq a' b' => E.same a a' && E.same b b' | _ => false
  | .not a, x => match x with | .not a' => E.same a a' | _ => false
  | .and a b, x => match x with | .and a' b' => E.same a a' && E.same b b' | _ => false
  | .beq a b, x => match x with | .beq a' b' => E.same a a' && E.same b b' | _ => false

theorem E.same_eq {a b : E} (h : E.same a b = true) : a = b := by
  induction a generalizing b <;> cases b <;> simp only [E.same, Bool.and_eq_true, Bool.false_eq_true, Nat.beq_eq_true_eq, beq_iff_eq] at h
  case lit.lit => rw [zSame_eq h]
  case var.var => rw [Nat.eq_of_beq_eq_true h]
  case bin.bin ih1 ih2 _ _ _ _ => obtain ⟨h1, h2, h3, h4⟩ := h; rw [opSame_eq h1, kdSame_eq h2, ih1 h3, ih2 h4]
  case conv.conv ih _ _ => rw [kdSame_eq h.1, ih h.2]
  case mn.mn ih1 ih2 _ _ => rw [ih1 h.1, ih2 h.2]
  case mx.mx ih1 ih2 _ _ => rw [ih1 h.1, ih2 h.2]
  case nil.nil => rfl
  case cons.cons ih1 ih2 _ _ => rw [ih1 h.1, ih2 h.2]
  case consb.consb ih1 ih2 _ _ => rw [ih1 h.1, ih2 h.2]
  case tt.tt => rw [h]
  case bvar.bvar => rw [Nat.eq_of_beq_eq_true h]
  case lt.lt ih1 ih2 _ _ => rw [ih1 h.1, ih2 h.2]
  case eq.eq ih1 ih2 _ _ => rw [ih1 h.1, ih2 h.2]
  case not.not ih _ => rw [ih h]
  case and.and ih1 ih2 _ _ => rw [ih1 h.1, ih2 h.2]
  case beq.beq ih1 ih2 _ _ => rw [ih1 h.1, ih2 h.2]

structure Env where
  i : Nat → Int
  b : Nat → Bool

/-- What an operation on two numbers of one kind comes to, as the model has it. -/
def opI (op : BinOp) (k : IntKind) (a b : Int) : Int :=
  match op with
  | .add => k.wrap (a + b)
  | .sub => k.wrap (a - b)
  | .mul => k.wrap (a * b)
  | .quo => k.wrap (a.tdiv b)
  | .rem => a.tmod b
  | .and | .or | .xor | .andNot => bits op k a b
  | .shl => k.wrap (a * 2 ^ min b.toNat k.bits)
  | .shr => a.fdiv (2 ^ min b.toNat k.bits)
  | _ => 0

mutual
def E.I (ρ : Env) : E → Int
  | .lit z => z
  | .var n => ρ.i n
  | .bin op k a b => opI op k (a.I ρ) (b.I ρ)
  | .conv k a => k.wrap (a.I ρ)
  | .mn a b => min (a.I ρ) (b.I ρ)
  | .mx a b => max (a.I ρ) (b.I ρ)
  | _ => 0
  termination_by structural x => x
def E.B (ρ : Env) : E → Bool
  | .tt b => b
  | .bvar n => ρ.b n
  | .lt a b => decide (a.I ρ < b.I ρ)
  | .eq a b => a.I ρ == b.I ρ
  | .not a => !a.B ρ
  | .and a b => a.B ρ && b.B ρ
  | .beq a b => a.B ρ == b.B ρ
  | _ => false
  termination_by structural x => x
def E.L (ρ : Env) : E → List Int
  | .cons a t => a.I ρ :: t.L ρ
  | .consb b t => (if b.B ρ then 1 else 0) :: t.L ρ
  | _ => []
  termination_by structural x => x
end

/-- One cell of memory, or one temporary of one cell. -/
inductive C where
  | int (k : IntKind) (e : E)
  | bool (e : E)
  | ptr (b o : Nat)
  | fn (f : Nat)
  | nilp
  | undef
  deriving Repr, Inhabited

/-- A temporary's value; parts of a tuple are rows of cells (true) or one cell (false). -/
inductive V where
  | one (c : C)
  | agg (cs : List C)
  | tup (vs : List (Bool × List C))
  deriving Repr, Inhabited

def C.den (ρ : Env) (j : Nat → Option Nat) : C → Option Value
  | .int k e => some (.int k (e.I ρ))
  | .bool e => some (.bool (e.B ρ))
  | .ptr b o => (j b).map fun k => .pointer (some ⟨k, o, none⟩)
  | .fn f => some (.func (.func f) #[] #[])
  | .nilp => some (.pointer none)
  | .undef => some Go.undef

def denL (ρ : Env) (j : Nat → Option Nat) : List C → Option (List Value)
  | [] => some []
  | c :: cs => match c.den ρ j, denL ρ j cs with
    | some v, some vs => some (v :: vs)
    | _, _ => none

def den0 (ρ : Env) (j : Nat → Option Nat) : Bool × List C → Option Value
  | (true, cs) => (denL ρ j cs).map fun vs => .agg vs.toArray
  | (false, [c]) => c.den ρ j
  | (false, _) => none

def den0L (ρ : Env) (j : Nat → Option Nat) : List (Bool × List C) → Option (List Value)
  | [] => some []
  | c :: cs => match den0 ρ j c, den0L ρ j cs with
    | some v, some vs => some (v :: vs)
    | _, _ => none

def V.den (ρ : Env) (j : Nat → Option Nat) : V → Option Value
  | .one c => c.den ρ j
  | .agg cs => (denL ρ j cs).map fun vs => .agg vs.toArray
  | .tup vs => (den0L ρ j vs).map fun vs => .tuple vs.toArray

/-- More blocks are known. -/
def Sub (j j' : Nat → Option Nat) : Prop := ∀ b k, j b = some k → j' b = some k
theorem Sub.refl (j : Nat → Option Nat) : Sub j j := fun _ _ h => h
theorem Sub.trans {j j' j'' : Nat → Option Nat} (h : Sub j j') (h' : Sub j' j'') : Sub j j'' := fun b k e => h' b k (h b k e)

theorem C.den_sub {ρ : Env} {j j' : Nat → Option Nat} (h : Sub j j') {c : C} {v : Value} (hd : c.den ρ j = some v) : c.den ρ j' = some v := by
  cases c with
  | ptr b o =>
    simp only [C.den, Option.map_eq_some_iff] at hd ⊢
    obtain ⟨k, hk, rfl⟩ := hd
    exact ⟨k, h b k hk, rfl⟩
  | _ => exact hd

theorem denL_sub {ρ : Env} {j j' : Nat → Option Nat} (h : Sub j j') : ∀ {cs : List C} {vs : List Value}, denL ρ j cs = some vs → denL ρ j' cs = some vs
  | [], _, hd => hd
  | c :: cs, vs, hd => by
    simp only [denL] at hd ⊢
    cases hc : c.den ρ j with
    | none => rw [hc] at hd; cases hd
    | some v =>
      cases hl : denL ρ j cs with
      | none => rw [hc, hl] at hd; cases hd
      | some l =>
        rw [hc, hl] at hd
        rw [C.den_sub h hc, denL_sub h hl]
        exact hd

theorem den0_sub {ρ : Env} {j j' : Nat → Option Nat} (h : Sub j j') {p : Bool × List C} {v : Value} (hd : den0 ρ j p = some v) : den0 ρ j' p = some v := by
  obtain ⟨t, cs⟩ := p
  cases t with
  | true =>
    simp only [den0, Option.map_eq_some_iff] at hd ⊢
    obtain ⟨l, hl, rfl⟩ := hd
    exact ⟨l, denL_sub h hl, rfl⟩
  | false =>
    match cs, hd with
    | [c], hd => exact C.den_sub h hd

theorem den0L_sub {ρ : Env} {j j' : Nat → Option Nat} (h : Sub j j') : ∀ {cs : List (Bool × List C)} {vs : List Value}, den0L ρ j cs = some vs → den0L ρ j' cs = some vs
  | [], _, hd => hd
  | c :: cs, vs, hd => by
    simp only [den0L] at hd ⊢
    cases hc : den0 ρ j c with
    | none => rw [hc] at hd; cases hd
    | some v =>
      cases hl : den0L ρ j cs with
      | none => rw [hc, hl] at hd; cases hd
      | some l =>
        rw [hc, hl] at hd
        rw [den0_sub h hc, den0L_sub h hl]
        exact hd

theorem V.den_sub {ρ : Env} {j j' : Nat → Option Nat} (h : Sub j j') {x : V} {v : Value} (hd : x.den ρ j = some v) : x.den ρ j' = some v := by
  cases x with
  | one c => exact C.den_sub h hd
  | agg cs =>
    simp only [V.den, Option.map_eq_some_iff] at hd ⊢
    obtain ⟨l, hl, rfl⟩ := hd
    exact ⟨l, denL_sub h hl, rfl⟩
  | tup vs =>
    simp only [V.den, Option.map_eq_some_iff] at hd ⊢
    obtain ⟨l, hl, rfl⟩ := hd
    exact ⟨l, den0L_sub h hl, rfl⟩

theorem denL_length {ρ : Env} {j : Nat → Option Nat} : ∀ {cs : List C} {vs : List Value}, denL ρ j cs = some vs → vs.length = cs.length
  | [], vs, h => by cases h; rfl
  | c :: cs, vs, h => by
    simp only [denL] at h
    cases hc : c.den ρ j with
    | none => rw [hc] at h; cases h
    | some v =>
      cases hl : denL ρ j cs with
      | none => rw [hc, hl] at h; cases h
      | some l => rw [hc, hl] at h; cases h; simp [denL_length hl]

theorem denL_get {ρ : Env} {j : Nat → Option Nat} : ∀ {cs : List C} {vs : List Value}, denL ρ j cs = some vs → ∀ (i : Nat) c, cs[i]? = some c → ∃ v, vs[i]? = some v ∧ c.den ρ j = some v
  | [], vs, h, i, c, hc => by simp at hc
  | c :: cs, vs, h, i, c', hc' => by
    simp only [denL] at h
    cases hc : c.den ρ j with
    | none => rw [hc] at h; cases h
    | some v =>
      cases hl : denL ρ j cs with
      | none => rw [hc, hl] at h; cases h
      | some l =>
        rw [hc, hl] at h; cases h
        cases i with
        | zero => simp at hc'; subst hc'; exact ⟨v, rfl, hc⟩
        | succ i => exact denL_get hl i c' (by simpa using hc')

theorem denL_set {ρ : Env} {j : Nat → Option Nat} : ∀ {cs : List C} {vs : List Value}, denL ρ j cs = some vs → ∀ (i : Nat) (c : C) (v : Value), c.den ρ j = some v → denL ρ j (cs.set i c) = some (vs.set i v)
  | [], vs, h, i, c, v, hv => by cases h; rfl
  | c :: cs, vs, h, i, c', v', hv' => by
    simp only [denL] at h
    cases hc : c.den ρ j with
    | none => rw [hc] at h; cases h
    | some v =>
      cases hl : denL ρ j cs with
      | none => rw [hc, hl] at h; cases h
      | some l =>
        rw [hc, hl] at h; cases h
        cases i with
        | zero => simp only [List.set_cons_zero, denL, hv', hl]
        | succ i => simp only [List.set_cons_succ, denL, hc, denL_set hl i c' v' hv']

theorem denL_append {ρ : Env} {j : Nat → Option Nat} : ∀ {cs ds : List C} {vs us : List Value}, denL ρ j cs = some vs → denL ρ j ds = some us → denL ρ j (cs ++ ds) = some (vs ++ us)
  | [], ds, vs, us, h, h' => by cases h; exact h'
  | c :: cs, ds, vs, us, h, h' => by
    simp only [denL] at h
    cases hc : c.den ρ j with
    | none => rw [hc] at h; cases h
    | some v =>
      cases hl : denL ρ j cs with
      | none => rw [hc, hl] at h; cases h
      | some l =>
        rw [hc, hl] at h; cases h
        simp only [List.cons_append, denL, hc, denL_append hl h']

theorem denL_take {ρ : Env} {j : Nat → Option Nat} : ∀ {cs : List C} {vs : List Value}, denL ρ j cs = some vs → ∀ (i : Nat), denL ρ j (cs.take i) = some (vs.take i)
  | [], vs, h, i => by cases h; simp [denL]
  | c :: cs, vs, h, i => by
    simp only [denL] at h
    cases hc : c.den ρ j with
    | none => rw [hc] at h; cases h
    | some v =>
      cases hl : denL ρ j cs with
      | none => rw [hc, hl] at h; cases h
      | some l =>
        rw [hc, hl] at h; cases h
        cases i with
        | zero => rfl
        | succ i => simp only [List.take_succ_cons, denL, hc, denL_take hl i]

theorem denL_drop {ρ : Env} {j : Nat → Option Nat} : ∀ {cs : List C} {vs : List Value}, denL ρ j cs = some vs → ∀ (i : Nat), denL ρ j (cs.drop i) = some (vs.drop i)
  | [], vs, h, i => by cases h; simp [denL]
  | c :: cs, vs, h, i => by
    have h0 := h
    simp only [denL] at h
    cases hc : c.den ρ j with
    | none => rw [hc] at h; cases h
    | some v =>
      cases hl : denL ρ j cs with
      | none => rw [hc, hl] at h; cases h
      | some l =>
        rw [hc, hl] at h; cases h
        cases i with
        | zero => exact h0
        | succ i => simp only [List.drop_succ_cons]; exact denL_drop hl i

theorem den0L_get {ρ : Env} {j : Nat → Option Nat} : ∀ {cs : List (Bool × List C)} {vs : List Value}, den0L ρ j cs = some vs → ∀ (i : Nat) c, cs[i]? = some c → ∃ v, vs[i]? = some v ∧ den0 ρ j c = some v
  | [], vs, h, i, c, hc => by simp at hc
  | c :: cs, vs, h, i, c', hc' => by
    simp only [den0L] at h
    cases hc : den0 ρ j c with
    | none => rw [hc] at h; cases h
    | some v =>
      cases hl : den0L ρ j cs with
      | none => rw [hc, hl] at h; cases h
      | some l =>
        rw [hc, hl] at h; cases h
        cases i with
        | zero => simp at hc'; subst hc'; exact ⟨v, rfl, hc⟩
        | succ i => exact den0L_get hl i c' (by simpa using hc')
end Go.Proofs.Ytcngfmhhaleoaaa
