/- Texts SyA, SyB, SyC, SyD, SyE, SyF in one. -/
import Derived.Test.YtgfghplnankgnaaLib
import Derived.Maps.AppendAt
import Derived.OpenShut
import Derived.Laws.EntriesVeiled
import Derived.Calls
import Derived.Laws.OwnMore
import Derived.Deep.Onto
/- Expressions over whole numbers, truth values and rows, cells, values and states of a symbolic run, and what they stand for. Nothing of the program is in here. -/
set_option linter.unusedVariables false
set_option linter.unusedSimpArgs false
namespace Go.Proofs.Ytgfghplnankgnaa
open Go.RowKit

/-- A cell of a row's element: a whole number of a kind, or a truth value. -/
abbrev CE := Option IntKind
/-- Expressions: numbers, truth values, rows of numbers, lists of rows in one type. -/
inductive E where
  | lit (z : Int)
  | var (n : Nat)
  | bin (op : BinOp) (k : IntKind) (a b : E)
  | conv (k : IntKind) (a : E)
  | mn (a b : E)
  | mx (a b : E)
  | len (a : E)
  | get (a i : E) (c : Nat)
  | nil
  | cons (a t : E)
  | consb (b t : E)
  | consl (l t : E)
  | tt (b : Bool)
  | bvar (n : Nat)
  | lt (a b : E)
  | eq (a b : E)
  | not (a : E)
  | and (a b : E)
  | beq (a b : E)
  | getb (a i : E) (c : Nat)
  | lvar (n : Nat)
  | lnil
  | lset (a i : E) (c : Nat) (x : E)
  | lsetb (a i : E) (c : Nat) (x : E)
  | lapp (a r : E)
  | lcat (a b : E)
  | lrep (n r : E)
  | ltake (a n : E)
  | ldrop (a n : E)
  | mix (l key : E)
  | lput (l i r : E)
  | nth (i l : E)
  | ite (c a b : E)
  deriving Repr, Inhabited

def opSame : BinOp → BinOp → Bool
  | .add, .add | .sub, .sub | .mul, .mul | .quo, .quo | .rem, .rem | .and, .and | .or, .or | .xor, .xor | .shl, .shl | .shr, .shr | .andNot, .andNot => true
  | _, _ => false
def kdSame : IntKind → IntKind → Bool
  | .i8, .i8 | .i16, .i16 | .i32, .i32 | .i64, .i64 | .u8, .u8 | .u16, .u16 | .u32, .u32 | .u64, .u64 => true
  | _, _ => false
theorem opSame_eq {a b : BinOp} (h : opSame a b = true) : a = b := by cases a <;> cases b <;> first | rfl | cases h
theorem kdSame_eq {a b : IntKind} (h : kdSame a b = true) : a = b := by cases a <;> cases b <;> first | rfl | cases h
def zSame : Int → Int → Bool
  | .ofNat a, .ofNat b => Nat.beq a b
  | .negSucc a, .negSucc b => Nat.beq a b
  | _, _ => false
theorem zSame_eq {a b : Int} (h : zSame a b = true) : a = b := by
  cases a <;> cases b <;> simp [zSame] at h <;> simp [h]
theorem zSame_iff {a b : Int} : zSame a b = (a == b) := by
  cases h : zSame a b with
  | true => rw [zSame_eq h]; simp
  | false =>
    symm
    rw [beq_eq_false_iff_ne]
    rintro rfl
    cases a <;> simp [zSame] at h

def E.same : E → E → Bool
  | .lit a, x => match x with | .lit b => zSame a b | _ => false
  | .var a, x => match x with | .var b => Nat.beq a b | _ => false
  | .bin o k a b, x => match x with | .bin o' k' a' b' => opSame o o' && (kdSame k k' && (E.same a a' && E.same b b')) | _ => false
  | .conv k a, x => match x with | .conv k' a' => kdSame k k' && E.same a a' | _ => false
  | .mn a b, x => match x with | .mn a' b' => E.same a a' && E.same b b' | _ => false
  | .mx a b, x => match x with | .mx a' b' => E.same a a' && E.same b b' | _ => false
  | .len a, x => match x with | .len a' => E.same a a' | _ => false
  | .get a i c, x => match x with | .get a' i' c' => Nat.beq c c' && (E.same a a' && E.same i i') | _ => false
  | .nil, x => match x with | .nil => true | _ => false
  | .cons a b, x => match x with | .cons a' b' => E.same a a' && E.same b b' | _ => false
  | .consb a b, x => match x with | .consb a' b' => E.same a a' && E.same b b' | _ => false
  | .consl a b, x => match x with | .consl a' b' => E.same a a' && E.same b b' | _ => false
  | .tt a, x => match x with | .tt b => a == b | _ => false
  | .bvar a, x => match x with | .bvar b => Nat.beq a b | _ => false
  | .lt a b, x => match x with | .lt a' b' => E.same a a' && E.same b b' | _ => false
  | .eq a b, x => match x with | .eq a' b' => E.same a a' && E.same b b' | _ => false
  | .not a, x => match x with | .not a' => E.same a a' | _ => false
  | .and a b, x => match x with | .and a' b' => E.same a a' && E.same b b' | _ => false
  | .beq a b, x => match x with | .beq a' b' => E.same a a' && E.same b b' | _ => false
  | .getb a i c, x => match x with | .getb a' i' c' => Nat.beq c c' && (E.same a a' && E.same i i') | _ => false
  | .lvar a, x => match x with | .lvar b => Nat.beq a b | _ => false
  | .lnil, x => match x with | .lnil => true | _ => false
  | .lset a i c y, x => match x with | .lset a' i' c' y' => Nat.beq c c' && (E.same a a' && (E.same i i' && E.same y y')) | _ => false
  | .lsetb a i c y, x => match x with | .lsetb a' i' c' y' => Nat.beq c c' && (E.same a a' && (E.same i i' && E.same y y')) | _ => false
  | .lapp a b, x => match x with | .lapp a' b' => E.same a a' && E.same b b' | _ => false
  | .lcat a b, x => match x with | .lcat a' b' => E.same a a' && E.same b b' | _ => false
  | .lrep a b, x => match x with | .lrep a' b' => E.same a a' && E.same b b' | _ => false
  | .ltake a b, x => match x with | .ltake a' b' => E.same a a' && E.same b b' | _ => false
  | .ldrop a b, x => match x with | .ldrop a' b' => E.same a a' && E.same b b' | _ => false
  | .mix a b, x => match x with | .mix a' b' => E.same a a' && E.same b b' | _ => false
  | .nth a b, x => match x with | .nth a' b' => E.same a a' && E.same b b' | _ => false
  | .ite a i y, x => match x with | .ite a' i' y' => E.same a a' && (E.same i i' && E.same y y') | _ => false
  | .lput a i y, x => match x with | .lput a' i' y' => E.same a a' && (E.same i i' && E.same y y') | _ => false

theorem E.same_eq {a b : E} (h : E.same a b = true) : a = b := by
  induction a generalizing b <;> cases b <;> first | exact Bool.noConfusion h | skip
  case lit.lit => rw [zSame_eq h]
  case var.var => rw [Nat.eq_of_beq_eq_true h]
  case bvar.bvar => rw [Nat.eq_of_beq_eq_true h]
  case lvar.lvar => rw [Nat.eq_of_beq_eq_true h]
  case nil.nil => rfl
  case lnil.lnil => rfl
  case tt.tt => rw [E.same, beq_iff_eq] at h; rw [h]
  case bin.bin ih1 ih2 _ _ _ _ => simp only [E.same, Bool.and_eq_true] at h; obtain ⟨h1, h2, h3, h4⟩ := h; rw [opSame_eq h1, kdSame_eq h2, ih1 h3, ih2 h4]
  case conv.conv ih _ _ => simp only [E.same, Bool.and_eq_true] at h; rw [kdSame_eq h.1, ih h.2]
  case not.not ih _ => rw [ih h]
  case len.len ih _ => rw [ih h]
  case get.get ih1 ih2 _ _ _ => simp only [E.same, Bool.and_eq_true] at h; rw [Nat.eq_of_beq_eq_true h.1, ih1 h.2.1, ih2 h.2.2]
  case getb.getb ih1 ih2 _ _ _ => simp only [E.same, Bool.and_eq_true] at h; rw [Nat.eq_of_beq_eq_true h.1, ih1 h.2.1, ih2 h.2.2]
  case lset.lset ih1 ih2 ih3 _ _ _ _ => simp only [E.same, Bool.and_eq_true] at h; rw [Nat.eq_of_beq_eq_true h.1, ih1 h.2.1, ih2 h.2.2.1, ih3 h.2.2.2]
  case ite.ite ih1 ih2 ih3 _ _ _ => simp only [E.same, Bool.and_eq_true] at h; rw [ih1 h.1, ih2 h.2.1, ih3 h.2.2]
  case lput.lput ih1 ih2 ih3 _ _ _ => simp only [E.same, Bool.and_eq_true] at h; rw [ih1 h.1, ih2 h.2.1, ih3 h.2.2]
  case lsetb.lsetb ih1 ih2 ih3 _ _ _ _ => simp only [E.same, Bool.and_eq_true] at h; rw [Nat.eq_of_beq_eq_true h.1, ih1 h.2.1, ih2 h.2.2.1, ih3 h.2.2.2]
  all_goals
    rename_i ih1 ih2 _ _
    simp only [E.same, Bool.and_eq_true] at h
    rw [ih1 h.1, ih2 h.2]

/-- What a row's cell is. -/
def gt (L : List (List Int)) (i : Int) (c : Nat) : Int := (L.getD i.toNat []).getD c 0
def st (L : List (List Int)) (i : Int) (c : Nat) (x : Int) : List (List Int) := L.set i.toNat ((L.getD i.toNat []).set c x)
/-- The place of the first row that begins with a key; the number of rows, if there is none. -/
def mixI (L : List (List Int)) (key : List Int) : Int := (L.findIdx fun r => r.take key.length == key : Nat)
def b2i (b : Bool) : Int := if b then 1 else 0
/-- A contract's argument: a number (or a truth value), or a list of rows. -/
inductive Dt where
  | z (x : Int)
  | l (L : List (List Int))
  deriving Inhabited

structure Env where
  i : Nat → Int
  b : Nat → Bool
  l : Nat → List (List Int)

/-- What an operation on two numbers of one kind comes to, as the model has it. -/
def opI (op : BinOp) (k : IntKind) (a b : Int) : Int :=
  match op with
  | .add => k.wrap (a + b)
  | .sub => k.wrap (a - b)
  | .mul => k.wrap (a * b)
  | .quo => k.wrap (a.tdiv b)
  | .rem => a.tmod b
  | .and | .or | .xor | .andNot => bits op k a b
  | .shl => k.wrap (a * 2 ^ min b.toNat k.bits)
  | .shr => a.fdiv (2 ^ min b.toNat k.bits)
  | _ => 0

mutual
def E.I (ρ : Env) : E → Int
  | .lit z => z
  | .var n => ρ.i n
  | .bin op k a b => opI op k (a.I ρ) (b.I ρ)
  | .conv k a => k.wrap (a.I ρ)
  | .mn a b => min (a.I ρ) (b.I ρ)
  | .mx a b => max (a.I ρ) (b.I ρ)
  | .len a => ((a.R ρ).length : Int)
  | .get a i c => gt (a.R ρ) (i.I ρ) c
  | .mix l key => mixI (l.R ρ) (key.L ρ)
  | .nth i l => (l.L ρ).getD (i.I ρ).toNat 0
  | .ite c a b => if c.B ρ then a.I ρ else b.I ρ
  | _ => 0
  termination_by structural x => x
def E.B (ρ : Env) : E → Bool
  | .tt b => b
  | .bvar n => ρ.b n
  | .lt a b => decide (a.I ρ < b.I ρ)
  | .eq a b => a.I ρ == b.I ρ
  | .not a => !a.B ρ
  | .and a b => a.B ρ && b.B ρ
  | .beq a b => a.B ρ == b.B ρ
  | .getb a i c => gt (a.R ρ) (i.I ρ) c == 1
  | _ => false
  termination_by structural x => x
def E.L (ρ : Env) : E → List Int
  | .cons a t => a.I ρ :: t.L ρ
  | .consb b t => b2i (b.B ρ) :: t.L ρ
  | _ => []
  termination_by structural x => x
def E.R (ρ : Env) : E → List (List Int)
  | .lvar n => ρ.l n
  | .lset a i c x => st (a.R ρ) (i.I ρ) c (x.I ρ)
  | .lsetb a i c x => st (a.R ρ) (i.I ρ) c (b2i (x.B ρ))
  | .lapp a r => a.R ρ ++ [r.L ρ]
  | .lput a i r => (a.R ρ).set (i.I ρ).toNat (r.L ρ)
  | .lcat a b => a.R ρ ++ b.R ρ
  | .lrep n r => List.replicate (n.I ρ).toNat (r.L ρ)
  | .ltake a n => (a.R ρ).take (n.I ρ).toNat
  | .ldrop a n => (a.R ρ).drop (n.I ρ).toNat
  | _ => []
  termination_by structural x => x
end
def E.D (ρ : Env) : E → List Dt
  | .cons a t => .z (a.I ρ) :: t.D ρ
  | .consb b t => .z (b2i (b.B ρ)) :: t.D ρ
  | .consl l t => .l (l.R ρ) :: t.D ρ
  | _ => []

/-- Where a run's boxes and rows are. -/
structure SV where
  a : Option Addr
  n : Nat
  c : Nat
def SV.v (s : SV) : Value := .slice s.a s.n s.c
/-- A map, an iterator, in such a place. -/
def SV.mv (s : SV) : Value := .map (s.a.map (·.block))
def SV.pv (s : SV) : Value := .pointer (s.a.map fun a => ⟨a.block, 0, none⟩)
structure J where
  b : Nat → Option Nat
  s : Nat → Option SV
  f : Nat → Option Nat
def J.zero : J := ⟨fun _ => Option.none, fun _ => Option.none, fun _ => Option.none⟩

/-- One cell of memory, or one temporary of one cell. -/
inductive C where
  | int (k : IntKind) (e : E)
  | bool (e : E)
  | ptr (b o : Nat)
  | fp (b o : Nat)
  | fn (f : Nat)
  | nilp
  | undef
  | sl (id : Nat)
  | ep (id esz : Nat) (e : E) (off : Nat)
  | nsl
  | nilf
  | clo (g : Nat) (fs ps : List (Option (Bool × Nat × Nat)))
  | mp (id : Nat)
  | itp (id mid : Nat)
  | pe (b o n sz : Nat) (e : E) (off : Nat)
  | nmp
  deriving Repr, Inhabited

/-- A temporary's value; parts of a tuple are rows of cells (true) or one cell (false). -/
inductive V where
  | one (c : C)
  | agg (cs : List C)
  | tup (vs : List (Bool × List C))
  | top
  deriving Repr, Inhabited

def SV.elem (s : SV) (n : Nat) : Option Value := s.a.map fun a => .pointer (some (a.add n))
/-- What a closure has bound: boxes of one's own or of the caller's, or nothing. -/
def ptrV (j : J) : Option (Bool × Nat × Nat) → Option Value
  | none => some (.pointer none)
  | some (true, b, o) => (j.b b).map fun k => .pointer (some ⟨k, o, none⟩)
  | some (false, b, o) => (j.f b).map fun k => .pointer (some ⟨k, o, none⟩)
def ptrVs (j : J) : List (Option (Bool × Nat × Nat)) → Option (List Value)
  | [] => some []
  | x :: l => match ptrV j x, ptrVs j l with
    | some v, some vs => some (v :: vs)
    | _, _ => none
def cloV (g : Nat) : Option (List Value) → Option (List Value) → Option Value
  | some a, some b => some (.func (.func g) a.toArray b.toArray)
  | _, _ => none
theorem cloV_some {g : Nat} {a b : Option (List Value)} {v : Value} (h : cloV g a b = some v) : ∃ x y, a = some x ∧ b = some y ∧ v = .func (.func g) x.toArray y.toArray := by
  cases a <;> cases b <;> simp only [cloV] at h <;> cases h
  exact ⟨_, _, rfl, rfl, rfl⟩
def C.den (ρ : Env) (j : J) : C → Option Value
  | .int k e => some (.int k (e.I ρ))
  | .bool e => some (.bool (e.B ρ))
  | .ptr b o => (j.b b).map fun k => .pointer (some ⟨k, o, none⟩)
  | .fp b o => (j.f b).map fun k => .pointer (some ⟨k, o, none⟩)
  | .pe b o _ sz e off => (j.b b).map fun k => .pointer (some ⟨k, o + ((e.I ρ).toNat * sz + off), none⟩)
  | .sl id => (j.s id).map SV.v
  | .ep id esz e off => (j.s id).bind fun v => v.elem ((e.I ρ).toNat * esz + off)
  | .nsl => some (.slice none 0 0)
  | .nilf => some .nilFunc
  | .nmp => some (.map none)
  | .fn f => some (.func (.func f) #[] #[])
  | .nilp => some (.pointer none)
  | .undef => some Go.undef
  | .clo g fs ps => cloV g (ptrVs j fs) (ptrVs j ps)
  | .mp id => (j.s id).map SV.mv
  | .itp id mid => (j.s id).bind fun s => (j.s mid).bind fun m => if m.a = some ⟨s.n, 0, none⟩ then some s.pv else none

def denL (ρ : Env) (j : J) : List C → Option (List Value)
  | [] => some []
  | c :: cs => match c.den ρ j, denL ρ j cs with
    | some v, some vs => some (v :: vs)
    | _, _ => none

def den0 (ρ : Env) (j : J) : Bool × List C → Option Value
  | (true, cs) => (denL ρ j cs).map fun vs => .agg vs.toArray
  | (false, [c]) => c.den ρ j
  | (false, _) => none

def den0L (ρ : Env) (j : J) : List (Bool × List C) → Option (List Value)
  | [] => some []
  | c :: cs => match den0 ρ j c, den0L ρ j cs with
    | some v, some vs => some (v :: vs)
    | _, _ => none

def V.den (ρ : Env) (j : J) : V → Option Value
  | .one c => c.den ρ j
  | .agg cs => (denL ρ j cs).map fun vs => .agg vs.toArray
  | .tup vs => (den0L ρ j vs).map fun vs => .tuple vs.toArray
  | .top => none

/-- More blocks are known. -/
structure Sub (j j' : J) : Prop where
  b : ∀ b k, j.b b = some k → j'.b b = some k
  s : ∀ b v, j.s b = some v → j'.s b = some v
  f : ∀ b k, j.f b = some k → j'.f b = some k
theorem Sub.refl (j : J) : Sub j j := ⟨fun _ _ h => h, fun _ _ h => h, fun _ _ h => h⟩
theorem Sub.trans {j j' j'' : J} (h : Sub j j') (h' : Sub j' j'') : Sub j j'' := ⟨fun b k e => h'.b b k (h.b b k e), fun b k e => h'.s b k (h.s b k e), fun b k e => h'.f b k (h.f b k e)⟩
theorem Sub.zero (j : J) : Sub J.zero j := ⟨fun _ _ h => (by cases h), fun _ _ h => (by cases h), fun _ _ h => (by cases h)⟩

theorem ptrV_sub {j j' : J} (h : Sub j j') {x : Option (Bool × Nat × Nat)} {v : Value} (hd : ptrV j x = some v) : ptrV j' x = some v := by
  match x, hd with
  | none, hd => exact hd
  | some (true, b, o), hd =>
    simp only [ptrV, Option.map_eq_some_iff] at hd ⊢
    obtain ⟨k, hk, rfl⟩ := hd
    exact ⟨k, h.b b k hk, rfl⟩
  | some (false, b, o), hd =>
    simp only [ptrV, Option.map_eq_some_iff] at hd ⊢
    obtain ⟨k, hk, rfl⟩ := hd
    exact ⟨k, h.f b k hk, rfl⟩
theorem ptrVs_sub {j j' : J} (h : Sub j j') : ∀ {l : List (Option (Bool × Nat × Nat))} {vs : List Value}, ptrVs j l = some vs → ptrVs j' l = some vs
  | [], _, hd => hd
  | x :: l, vs, hd => by
    simp only [ptrVs] at hd ⊢
    cases hx : ptrV j x with
    | none => rw [hx] at hd; cases hd
    | some v =>
      cases hl : ptrVs j l with
      | none => rw [hx, hl] at hd; cases hd
      | some us =>
        rw [hx, hl] at hd
        rw [ptrV_sub h hx, ptrVs_sub h hl]
        exact hd
theorem C.den_sub {ρ : Env} {j j' : J} (h : Sub j j') {c : C} {v : Value} (hd : c.den ρ j = some v) : c.den ρ j' = some v := by
  cases c with
  | ptr b o =>
    simp only [C.den, Option.map_eq_some_iff] at hd ⊢
    obtain ⟨k, hk, rfl⟩ := hd
    exact ⟨k, h.b b k hk, rfl⟩
  | fp b o =>
    simp only [C.den, Option.map_eq_some_iff] at hd ⊢
    obtain ⟨k, hk, rfl⟩ := hd
    exact ⟨k, h.f b k hk, rfl⟩
  | sl id =>
    simp only [C.den, Option.map_eq_some_iff] at hd ⊢
    obtain ⟨u, hu, rfl⟩ := hd
    exact ⟨u, h.s id u hu, rfl⟩
  | ep id esz e off =>
    simp only [C.den, Option.bind_eq_some_iff] at hd ⊢
    obtain ⟨u, hu, he⟩ := hd
    exact ⟨u, h.s id u hu, he⟩
  | mp id =>
    simp only [C.den, Option.map_eq_some_iff] at hd ⊢
    obtain ⟨u, hu, rfl⟩ := hd
    exact ⟨u, h.s id u hu, rfl⟩
  | pe b o n sz e off =>
    simp only [C.den, Option.map_eq_some_iff] at hd ⊢
    obtain ⟨u, hu, rfl⟩ := hd
    exact ⟨u, h.b b u hu, rfl⟩
  | itp id mid =>
    simp only [C.den, Option.bind_eq_some_iff] at hd ⊢
    obtain ⟨u, hu, m, hm, he⟩ := hd
    exact ⟨u, h.s id u hu, m, h.s mid m hm, he⟩
  | clo g fs ps =>
    obtain ⟨x, y, hx, hy, rfl⟩ := cloV_some hd
    simp only [C.den, ptrVs_sub h hx, ptrVs_sub h hy, cloV]
  | _ => exact hd

theorem denL_sub {ρ : Env} {j j' : J} (h : Sub j j') : ∀ {cs : List C} {vs : List Value}, denL ρ j cs = some vs → denL ρ j' cs = some vs
  | [], _, hd => hd
  | c :: cs, vs, hd => by
    simp only [denL] at hd ⊢
    cases hc : c.den ρ j with
    | none => rw [hc] at hd; cases hd
    | some v =>
      cases hl : denL ρ j cs with
      | none => rw [hc, hl] at hd; cases hd
      | some l =>
        rw [hc, hl] at hd
        rw [C.den_sub h hc, denL_sub h hl]
        exact hd

theorem den0_sub {ρ : Env} {j j' : J} (h : Sub j j') {p : Bool × List C} {v : Value} (hd : den0 ρ j p = some v) : den0 ρ j' p = some v := by
  obtain ⟨t, cs⟩ := p
  cases t with
  | true =>
    simp only [den0, Option.map_eq_some_iff] at hd ⊢
    obtain ⟨l, hl, rfl⟩ := hd
    exact ⟨l, denL_sub h hl, rfl⟩
  | false =>
    match cs, hd with
    | [c], hd => exact C.den_sub h hd

theorem den0L_sub {ρ : Env} {j j' : J} (h : Sub j j') : ∀ {cs : List (Bool × List C)} {vs : List Value}, den0L ρ j cs = some vs → den0L ρ j' cs = some vs
  | [], _, hd => hd
  | c :: cs, vs, hd => by
    simp only [den0L] at hd ⊢
    cases hc : den0 ρ j c with
    | none => rw [hc] at hd; cases hd
    | some v =>
      cases hl : den0L ρ j cs with
      | none => rw [hc, hl] at hd; cases hd
      | some l =>
        rw [hc, hl] at hd
        rw [den0_sub h hc, den0L_sub h hl]
        exact hd

theorem itp_of {ρ : Env} {j : J} {id mid : Nat} {v : Value} (h : (C.itp id mid).den ρ j = some v) : ∃ s m, j.s id = some s ∧ j.s mid = some m ∧ m.a = some ⟨s.n, 0, none⟩ ∧ v = s.pv := by
  simp only [C.den, Option.bind_eq_some_iff] at h
  obtain ⟨u, hu, m, hm, he⟩ := h
  split at he
  · rename_i hc; cases he; exact ⟨u, m, hu, hm, hc, rfl⟩
  · cases he

theorem V.den_sub {ρ : Env} {j j' : J} (h : Sub j j') {x : V} {v : Value} (hd : x.den ρ j = some v) : x.den ρ j' = some v := by
  cases x with
  | one c => exact C.den_sub h hd
  | agg cs =>
    simp only [V.den, Option.map_eq_some_iff] at hd ⊢
    obtain ⟨l, hl, rfl⟩ := hd
    exact ⟨l, denL_sub h hl, rfl⟩
  | tup vs =>
    simp only [V.den, Option.map_eq_some_iff] at hd ⊢
    obtain ⟨l, hl, rfl⟩ := hd
    exact ⟨l, den0L_sub h hl, rfl⟩
  | top => cases hd

theorem denL_length {ρ : Env} {j : J} : ∀ {cs : List C} {vs : List Value}, denL ρ j cs = some vs → vs.length = cs.length
  | [], vs, h => by cases h; rfl
  | c :: cs, vs, h => by
    simp only [denL] at h
    cases hc : c.den ρ j with
    | none => rw [hc] at h; cases h
    | some v =>
      cases hl : denL ρ j cs with
      | none => rw [hc, hl] at h; cases h
      | some l => rw [hc, hl] at h; cases h; simp [denL_length hl]

theorem denL_get {ρ : Env} {j : J} : ∀ {cs : List C} {vs : List Value}, denL ρ j cs = some vs → ∀ (i : Nat) c, cs[i]? = some c → ∃ v, vs[i]? = some v ∧ c.den ρ j = some v
  | [], vs, h, i, c, hc => by simp at hc
  | c :: cs, vs, h, i, c', hc' => by
    simp only [denL] at h
    cases hc : c.den ρ j with
    | none => rw [hc] at h; cases h
    | some v =>
      cases hl : denL ρ j cs with
      | none => rw [hc, hl] at h; cases h
      | some l =>
        rw [hc, hl] at h; cases h
        cases i with
        | zero => simp at hc'; subst hc'; exact ⟨v, rfl, hc⟩
        | succ i => exact denL_get hl i c' (by simpa using hc')

theorem denL_set {ρ : Env} {j : J} : ∀ {cs : List C} {vs : List Value}, denL ρ j cs = some vs → ∀ (i : Nat) (c : C) (v : Value), c.den ρ j = some v → denL ρ j (cs.set i c) = some (vs.set i v)
  | [], vs, h, i, c, v, hv => by cases h; rfl
  | c :: cs, vs, h, i, c', v', hv' => by
    simp only [denL] at h
    cases hc : c.den ρ j with
    | none => rw [hc] at h; cases h
    | some v =>
      cases hl : denL ρ j cs with
      | none => rw [hc, hl] at h; cases h
      | some l =>
        rw [hc, hl] at h; cases h
        cases i with
        | zero => simp only [List.set_cons_zero, denL, hv', hl]
        | succ i => simp only [List.set_cons_succ, denL, hc, denL_set hl i c' v' hv']

theorem denL_append {ρ : Env} {j : J} : ∀ {cs ds : List C} {vs us : List Value}, denL ρ j cs = some vs → denL ρ j ds = some us → denL ρ j (cs ++ ds) = some (vs ++ us)
  | [], ds, vs, us, h, h' => by cases h; exact h'
  | c :: cs, ds, vs, us, h, h' => by
    simp only [denL] at h
    cases hc : c.den ρ j with
    | none => rw [hc] at h; cases h
    | some v =>
      cases hl : denL ρ j cs with
      | none => rw [hc, hl] at h; cases h
      | some l =>
        rw [hc, hl] at h; cases h
        simp only [List.cons_append, denL, hc, denL_append hl h']

theorem denL_take {ρ : Env} {j : J} : ∀ {cs : List C} {vs : List Value}, denL ρ j cs = some vs → ∀ (i : Nat), denL ρ j (cs.take i) = some (vs.take i)
  | [], vs, h, i => by cases h; simp [denL]
  | c :: cs, vs, h, i => by
    simp only [denL] at h
    cases hc : c.den ρ j with
    | none => rw [hc] at h; cases h
    | some v =>
      cases hl : denL ρ j cs with
      | none => rw [hc, hl] at h; cases h
      | some l =>
        rw [hc, hl] at h; cases h
        cases i with
        | zero => rfl
        | succ i => simp only [List.take_succ_cons, denL, hc, denL_take hl i]

theorem denL_drop {ρ : Env} {j : J} : ∀ {cs : List C} {vs : List Value}, denL ρ j cs = some vs → ∀ (i : Nat), denL ρ j (cs.drop i) = some (vs.drop i)
  | [], vs, h, i => by cases h; simp [denL]
  | c :: cs, vs, h, i => by
    have h0 := h
    simp only [denL] at h
    cases hc : c.den ρ j with
    | none => rw [hc] at h; cases h
    | some v =>
      cases hl : denL ρ j cs with
      | none => rw [hc, hl] at h; cases h
      | some l =>
        rw [hc, hl] at h; cases h
        cases i with
        | zero => exact h0
        | succ i => simp only [List.drop_succ_cons]; exact denL_drop hl i

theorem den0L_get {ρ : Env} {j : J} : ∀ {cs : List (Bool × List C)} {vs : List Value}, den0L ρ j cs = some vs → ∀ (i : Nat) c, cs[i]? = some c → ∃ v, vs[i]? = some v ∧ den0 ρ j c = some v
  | [], vs, h, i, c, hc => by simp at hc
  | c :: cs, vs, h, i, c', hc' => by
    simp only [den0L] at h
    cases hc : den0 ρ j c with
    | none => rw [hc] at h; cases h
    | some v =>
      cases hl : den0L ρ j cs with
      | none => rw [hc, hl] at h; cases h
      | some l =>
        rw [hc, hl] at h; cases h
        cases i with
        | zero => simp at hc'; subst hc'; exact ⟨v, rfl, hc⟩
        | succ i => exact den0L_get hl i c' (by simpa using hc')
end Go.Proofs.Ytgfghplnankgnaa


/- A symbolic run of one operation (rows and loops): smart expressions, decisions, what an operation does; and that the model's operation does so. Nothing of the program is in here. -/
set_option linter.unusedVariables false
set_option linter.unusedSimpArgs false
namespace Go.Proofs.Ytgfghplnankgnaa
open Go.RowKit

/-- A cell's kind in a contract's shape. -/
inductive CK where
  | int (k : IntKind)
  | bool
  | fn (g : Nat)
  | lit (k : IntKind) (z : Int)
  | sl (ks : List CE) (ty : Nat)
  | nilf
  deriving Repr, Inhabited
/-- A part of a contract's shape: a cell, a struct or an array, a pointer to a box. -/
inductive Sh where
  | one (c : CK)
  | agg (cs : List CK)
  | ptr (cs : List CK)
  deriving Repr, Inhabited
def Sh.cks : Sh → List CK
  | .one c => [c]
  | .agg cs => cs
  | .ptr cs => cs
/-- A number's kind, among the numbers of a run. -/
inductive VK where
  | int (k : IntKind)
  | bool
  | list (ks : List CE)
  deriving Repr, Inhabited

/-- A row of elements in memory. -/
inductive RK where
  | sl
  | map (nk : Nat) (ka va : Bool)
  | it (mid : Nat) (n : E)
  deriving Repr, Inhabited
/-- What lies in a row's place: a slice's elements; a map's entries (the first nk cells are the key's); what an iterator has handed out, of n entries of a map. -/
structure RowOb where
  ks : List CE
  ty : Nat
  l : E
  own : Bool
  kd : RK
  deriving Repr, Inhabited
def RK.isSl : RK → Bool
  | .sl => true
  | _ => false
inductive Ob where
  | box (cs : List C) (ty : Nat)
  | row (r : RowOb)
  | gone
  deriving Repr, Inhabited
/-- A state of a run: the first n temporaries are the function's own, the others those of the functions that wait for it. -/
structure St where
  tmps : List V
  heap : List Ob
  n : Nat
  deriving Repr, Inhabited

/-- The tree of a run: leaves with a result, branches on conditions, calls that bring new numbers; loops and joins, whose numbers are any that an invariant lets be. -/
inductive Tr where
  | leaf (e : E)
  | panic
  | stuck (n : Nat)
  | br (e : E) (t f : Tr)
  | call (key : Nat) (ks : List CK) (args : E) (v0 : Nat) (t : Tr)
  | loop (lv v0 : Nat) (vks : List VK) (init : E) (body : Tr)
  | cut (lv v0 : Nat) (vks : List VK) (pre body : Tr)
  | next (lv : Nat) (args : E)
  | at (id : Nat) (s : St)
  | any (v0 : Nat) (e : E) (t : Tr)
  deriving Repr, Inhabited

/-- What the called functions come to, and what they ask of their arguments. -/
structure Spec where
  F : Nat → List Dt → List Dt
  pre : Nat → List Dt → Prop
def dI (ds : List Dt) (n : Nat) : Int := match ds[n]? with | some (.z x) => x | _ => 0
def dB (ds : List Dt) (n : Nat) : Bool := dI ds n == 1
def dL (ds : List Dt) (n : Nat) : List (List Int) := match ds[n]? with | some (.l L) => L | _ => []

def eqs (ρ : Env) (ds : List Dt) (v0 : Nat) : Nat → List CK → Prop
  | _, [] => True
  | n, .int _ :: ks => ρ.i (v0 + n) = dI ds n ∧ eqs ρ ds v0 (n + 1) ks
  | n, .bool :: ks => ρ.b (v0 + n) = dB ds n ∧ eqs ρ ds v0 (n + 1) ks
  | n, .sl _ _ :: ks => ρ.l (v0 + n) = dL ds n ∧ eqs ρ ds v0 (n + 1) ks
  | n, _ :: ks => eqs ρ ds v0 (n + 1) ks

def Ag (n : Nat) (ρ ρ' : Env) : Prop := ∀ i, i < n → ρ.i i = ρ'.i i ∧ ρ.b i = ρ'.b i ∧ ρ.l i = ρ'.l i
theorem Ag.refl (n : Nat) (ρ : Env) : Ag n ρ ρ := fun _ _ => ⟨rfl, rfl, rfl⟩
theorem Ag.trans {n : Nat} {a b c : Env} (h : Ag n a b) (h' : Ag n b c) : Ag n a c := fun i hi => ⟨(h i hi).1.trans (h' i hi).1, (h i hi).2.1.trans (h' i hi).2.1, (h i hi).2.2.trans (h' i hi).2.2⟩
theorem Ag.mono {n m : Nat} {a b : Env} (h : Ag n a b) (hm : m ≤ n) : Ag m a b := fun i hi => h i (by omega)
theorem Ag.symm {n : Nat} {a b : Env} (h : Ag n a b) : Ag n b a := fun i hi => ⟨(h i hi).1.symm, (h i hi).2.1.symm, (h i hi).2.2.symm⟩

/-! ### Ranges -/
def inK (k : IntKind) (z : Int) : Bool := decide (k.min ≤ z) && decide (z ≤ k.max)
def inCE : CE → Int → Bool
  | some k, z => inK k z
  | none, z => z == 0 || z == 1
def rowIn : List CE → List Int → Bool
  | [], [] => true
  | k :: ks, x :: xs => inCE k x && rowIn ks xs
  | _, _ => false
structure RowsIn (ks : List CE) (L : List (List Int)) : Prop where
  row : ∀ r ∈ L, rowIn ks r = true
  len : L.length ≤ maxLen

def varD (ρ : Env) (n : Nat) : VK → Dt
  | .int _ => .z (ρ.i n)
  | .bool => .z (b2i (ρ.b n))
  | .list _ => .l (ρ.l n)
def varsD (ρ : Env) : Nat → List VK → List Dt
  | _, [] => []
  | n, k :: ks => varD ρ n k :: varsD ρ (n + 1) ks
def okD : VK → Dt → Prop
  | .int k, .z x => inK k x = true
  | .bool, .z x => x = 0 ∨ x = 1
  | .list ks, .l L => RowsIn ks L
  | _, _ => False
def okDs : List VK → List Dt → Prop
  | [], [] => True
  | k :: ks, d :: ds => okD k d ∧ okDs ks ds
  | _, _ => False

def upd (I : Nat → List Dt → Prop) (lv : Nat) (p : List Dt → Prop) : Nat → List Dt → Prop := fun n => if n = lv then p else I n
theorem upd_same (I : Nat → List Dt → Prop) (lv : Nat) (p : List Dt → Prop) : upd I lv p lv = p := if_pos rfl
theorem upd_other (I : Nat → List Dt → Prop) {lv n : Nat} (p : List Dt → Prop) (h : n ≠ lv) : upd I lv p n = I n := if_neg h

def Tr.holds (sp : Spec) (G : Env → E → Prop) : Env → (Nat → List Dt → Prop) → Tr → Prop
  | ρ, _, .leaf e => G ρ e
  | _, _, .panic => False
  | _, _, .stuck _ => False
  | _, _, .at _ _ => False
  | ρ, I, .br e t f => (e.B ρ = true → t.holds sp G ρ I) ∧ (e.B ρ = false → f.holds sp G ρ I)
  | ρ, I, .call key ks args v0 t => sp.pre key (args.D ρ) ∧ eqs ρ (sp.F key (args.D ρ)) v0 0 ks ∧ t.holds sp G ρ I
  | ρ, I, .next lv args => I lv (args.D ρ)
  | ρ, I, .any v0 e t => ∀ z : Int, inK .i64 z = true → ∃ ρ', Ag v0 ρ ρ' ∧ ρ'.i v0 = z ∧ (e.B ρ' = true → t.holds sp G ρ' I)
  | ρ, I, .loop lv v0 vks init body => ∃ (inv : List Dt → Prop) (μ : List Dt → Nat), inv (init.D ρ) ∧
      ∀ ds, okDs vks ds → inv ds → ∃ ρ', Ag v0 ρ ρ' ∧ varsD ρ' v0 vks = ds ∧ body.holds sp G ρ' (upd I lv fun ds' => inv ds' ∧ μ ds' < μ ds)
  | ρ, I, .cut lv v0 vks pre body => ∃ inv : List Dt → Prop, pre.holds sp G ρ (upd I lv inv) ∧
      ∀ ds, okDs vks ds → inv ds → ∃ ρ', Ag v0 ρ ρ' ∧ varsD ρ' v0 vks = ds ∧ body.holds sp G ρ' I

/-- A contract's shape. -/
structure Sm where
  f : Nat
  key : Nat
  args : List Sh
  res : List Sh
  tup : Bool
  deriving Repr, Inhabited
def Sm.ks (s : Sm) : List CK := s.res.flatMap (·.cks)

structure TI where
  agg : Bool
  size : Nat
  zero : List C
  fields : List (Nat × Nat)
  arr : Option (Nat × Nat)
  ik : Option IntKind
  eqok : Bool
  isb : Bool
  sle : Option Nat
  bytes : Nat
  fnt : Bool
  mapt : Option (Nat × Nat)
  keyok : Bool
  deriving Repr, Inhabited

/-- What is known on a run's way. -/
structure Kw where
  pc : List (E × Bool)
  log : List (Nat × E × Nat)
  vk : List VK
  lv : Nat
  deriving Repr, Inhabited

/-- What is known grows on a run's way. -/
structure KwGe (a b : Kw) : Prop where
  lv : a.lv = b.lv
  vk : b.vk.length ≤ a.vk.length
theorem KwGe.refl (a : Kw) : KwGe a a := ⟨rfl, Nat.le_refl _⟩
theorem KwGe.trans {a b c : Kw} (h : KwGe a b) (h' : KwGe b c) : KwGe a c := ⟨h.lv.trans h'.lv, Nat.le_trans h'.vk h.vk⟩
/-- What is any at a loop's beginning (or behind a join): a temporary, a box's cell, a row's elements. -/
inductive Pl where
  | top (t : Nat)
  | tmpI (t : Nat) (k : IntKind)
  | tmpB (t : Nat)
  | tmpA (t : Nat) (ks : List CE)
  | tmpS (t : Nat) (ks : List CE) (ty : Nat)
  | celI (b o : Nat) (k : IntKind)
  | celB (b o : Nat)
  | celS (b o : Nat) (ks : List CE) (ty : Nat)
  | cels (b o : Nat) (ks : List CE)
  | only (ks : List Nat)
  | row (id : Nat)
  | gone (id : Nat)
  | ask
  deriving Repr, Inhabited

structure Cx where
  ty : List (Nat × TI)
  sm : List Sm
  res : List Sh
  fb : List (List C)
  hints : List (Nat × List Pl)
  cuts : List (Nat × List Pl)
  fns : List (Nat × Func × List (Nat × List Pl) × List (Nat × List Pl))

def lookN {α : Type} (n : Nat) : List (Nat × α) → Option α
  | [] => none
  | (m, a) :: l => if Nat.beq m n then some a else lookN n l
theorem lookN_mem {α : Type} {n : Nat} {a : α} : ∀ {l : List (Nat × α)}, lookN n l = some a → (n, a) ∈ l
  | (m, b) :: l, h => by
    simp only [lookN] at h
    split at h
    · rename_i hm
      rw [Nat.eq_of_beq_eq_true hm]
      cases h
      exact List.mem_cons_self
    · exact List.mem_cons_of_mem _ (lookN_mem h)

/-! ### Smart expressions -/
def mkBin (op : BinOp) (k : IntKind) (a b : E) : E :=
  match a, b with
  | .lit x, .lit y => .lit (opI op k x y)
  | a, b => .bin op k a b
theorem mkBin_I (ρ : Env) (op : BinOp) (k : IntKind) (a b : E) : (mkBin op k a b).I ρ = opI op k (a.I ρ) (b.I ρ) := by
  unfold mkBin; split <;> rfl
def mkConv (k : IntKind) (a : E) : E :=
  match a with
  | .lit x => .lit (k.wrap x)
  | a => .conv k a
theorem mkConv_I (ρ : Env) (k : IntKind) (a : E) : (mkConv k a).I ρ = k.wrap (a.I ρ) := by
  unfold mkConv; split <;> rfl
def mkLt (a b : E) : E :=
  match a, b with
  | .lit x, .lit y => .tt (decide (x < y))
  | a, b => if a.same b then .tt false else .lt a b
theorem mkLt_B (ρ : Env) (a b : E) : (mkLt a b).B ρ = decide (a.I ρ < b.I ρ) := by
  unfold mkLt
  split
  · rfl
  · split
    · rename_i h
      rw [E.same_eq h]
      simp [E.B]
    · rfl
def mkEq (a b : E) : E :=
  match a, b with
  | .lit x, .lit y => .tt (zSame x y)
  | a, b => if a.same b then .tt true else .eq a b
theorem mkEq_B (ρ : Env) (a b : E) : (mkEq a b).B ρ = (a.I ρ == b.I ρ) := by
  unfold mkEq
  split
  · simp [E.B, E.I, zSame_iff]
  · split
    · rename_i h
      rw [E.same_eq h]
      simp [E.B]
    · rfl
def mkNot (a : E) : E :=
  match a with
  | .tt b => .tt (!b)
  | .not a => a
  | a => .not a
theorem mkNot_B (ρ : Env) (a : E) : (mkNot a).B ρ = !a.B ρ := by
  unfold mkNot; split <;> simp [E.B]
def mkAnd (a b : E) : E :=
  match a with
  | .tt true => b
  | .tt false => .tt false
  | a => .and a b
theorem mkAnd_B (ρ : Env) (a b : E) : (mkAnd a b).B ρ = (a.B ρ && b.B ρ) := by
  unfold mkAnd; split <;> simp [E.B]
def mkBeq (a b : E) : E :=
  match a, b with
  | .tt true, b => b
  | a, .tt true => a
  | .tt false, b => mkNot b
  | a, .tt false => mkNot a
  | a, b => if a.same b then .tt true else .beq a b
theorem mkBeq_B (ρ : Env) (a b : E) : (mkBeq a b).B ρ = (a.B ρ == b.B ρ) := by
  unfold mkBeq
  split
  · simp [E.B]
  · simp [E.B]
  · rw [mkNot_B]; simp only [E.B]; cases b.B ρ <;> rfl
  · rw [mkNot_B]; simp only [E.B]; cases a.B ρ <;> rfl
  · split
    · rename_i h
      rw [E.same_eq h]
      simp [E.B]
    · rfl
def mkMin (a b : E) : E :=
  match a, b with
  | .lit x, .lit y => .lit (min x y)
  | a, b => if a.same b then a else .mn a b
theorem mkMin_I (ρ : Env) (a b : E) : (mkMin a b).I ρ = min (a.I ρ) (b.I ρ) := by
  unfold mkMin
  split
  · rfl
  · split
    · rename_i h; rw [E.same_eq h]; omega
    · rfl
def mkMax (a b : E) : E :=
  match a, b with
  | .lit x, .lit y => .lit (max x y)
  | a, b => if a.same b then a else .mx a b
theorem mkMax_I (ρ : Env) (a b : E) : (mkMax a b).I ρ = max (a.I ρ) (b.I ρ) := by
  unfold mkMax
  split
  · rfl
  · split
    · rename_i h; rw [E.same_eq h]; omega
    · rfl

theorem st_length' (L : List (List Int)) (i : Int) (c : Nat) (x : Int) : (st L i c x).length = L.length := by simp [st]
def mkLen : E → E
  | .lnil => .lit 0
  | .lset a _ _ _ => mkLen a
  | .lsetb a _ _ _ => mkLen a
  | .lput a _ _ => mkLen a
  | .lapp a r => match mkLen a with
    | .lit z => .lit (z + 1)
    | _ => .len (.lapp a r)
  | .lcat a b => match mkLen a, mkLen b with
    | .lit y, .lit z => .lit (y + z)
    | _, _ => .len (.lcat a b)
  | a => .len a
theorem mkLen_I (ρ : Env) : ∀ a : E, (mkLen a).I ρ = ((a.R ρ).length : Int) := by
  intro a
  induction a <;> simp only [mkLen] <;> first | rfl | skip
  case lset ih _ _ => rw [ih]; simp [E.R, st_length']
  case lsetb ih _ _ => rw [ih]; simp [E.R, st_length']
  case lput ih _ _ => rw [ih]; simp [E.R]
  case lapp ih _ =>
    split
    · rename_i z hz
      rw [hz] at ih
      simp only [E.I] at ih
      simp [E.R, E.I, ih]
    · rfl
  case lcat ih1 ih2 =>
    split
    · rename_i y z hy hz
      rw [hy] at ih1
      rw [hz] at ih2
      simp only [E.I] at ih1 ih2
      simp [E.R, E.I, ih1, ih2]
    · rfl
theorem mixI_le (L : List (List Int)) (key : List Int) : 0 ≤ mixI L key ∧ mixI L key ≤ (L.length : Int) := by
  unfold mixI
  have := List.findIdx_le_length (p := fun r : List Int => r.take key.length == key) (xs := L)
  omega
def mkMix (l key : E) : E := match l with
  | .lnil => .lit 0
  | l => .mix l key
theorem mkMix_I (ρ : Env) (l key : E) : (mkMix l key).I ρ = mixI (l.R ρ) (key.L ρ) := by
  unfold mkMix; split <;> simp [E.I, E.R, mixI]
/-! ### Ranges -/
theorem inK_wf {k : IntKind} {z : Int} : (Lit.int k z).wf = inK k z := rfl
theorem inK_wrap (k : IntKind) (z : Int) : inK k (k.wrap z) = true := wf_wrap k z
theorem inK_bits (op : BinOp) (k : IntKind) (x y : Int) : inK k (bits op k x y) = true := wf_bits op k x y
theorem inK_iff {k : IntKind} {z : Int} : inK k z = true ↔ k.min ≤ z ∧ z ≤ k.max := by simp [inK]
theorem kmin_le (k : IntKind) : k.min ≤ 0 := by cases k <;> decide
theorem kmax_ge (k : IntKind) : 0 ≤ k.max := by cases k <;> decide
theorem inK_zero (k : IntKind) : inK k 0 = true := inK_iff.2 ⟨kmin_le k, kmax_ge k⟩

def E.lenok (vk : List VK) : E → Bool
  | .lvar n => match vk[n]? with | some (.list _) => true | _ => false
  | .lnil => true
  | .lset a _ _ _ | .lsetb a _ _ _ | .lput a _ _ | .ltake a _ | .ldrop a _ => a.lenok vk
  | _ => false
mutual
def E.rng (vk : List VK) (k : IntKind) : E → Bool
  | .lit z => inK k z
  | .var n => match vk[n]? with | some (.int k') => kdSame k' k | _ => false
  | .bin op k' a _ => kdSame k' k && (match op with | .add | .sub | .mul | .quo | .shl | .and | .or | .xor | .andNot => true | .rem | .shr => a.rng vk k | _ => false)
  | .conv k' _ => kdSame k' k
  | .mn a b => a.rng vk k && b.rng vk k
  | .mx a b => a.rng vk k && b.rng vk k
  | .len a => kdSame .i64 k && a.lenok vk
  | .get a _ c => a.col vk k c
  | .mix l _ => kdSame .i64 k && l.lenok vk
  | .nth _ l => l.lrng vk k
  | .ite _ a b => a.rng vk k && b.rng vk k
  | _ => false
  termination_by structural x => x
/-- All elements of a list have a number of a kind in a place. -/
def E.col (vk : List VK) (k : IntKind) (c : Nat) : E → Bool
  | .lvar n => match vk[n]? with | some (.list ks) => (match ks[c]? with | some (some k') => kdSame k' k | _ => false) | _ => false
  | .lnil => true
  | .lset a _ c' x => a.col vk k c && (!Nat.beq c' c || x.rng vk k)
  | .lsetb a _ c' _ => a.col vk k c && !Nat.beq c' c
  | .lapp a r => a.col vk k c && r.rcol vk k c
  | .lput a _ r => a.col vk k c && r.rcol vk k c
  | .lcat a b => a.col vk k c && b.col vk k c
  | .lrep _ r => r.rcol vk k c
  | .ltake a _ | .ldrop a _ => a.col vk k c
  | _ => false
  termination_by structural x => x
/-- A row has a number of a kind in a place. -/
def E.rcol (vk : List VK) (k : IntKind) (c : Nat) : E → Bool
  | .cons a t => match c with | 0 => a.rng vk k | c + 1 => t.rcol vk k c
  | .consb _ t => match c with | 0 => false | c + 1 => t.rcol vk k c
  | .nil => true
  | _ => false
  termination_by structural x => x
/-- All of a list's numbers are of a kind. -/
def E.lrng (vk : List VK) (k : IntKind) : E → Bool
  | .nil => true
  | .cons a t => a.rng vk k && t.lrng vk k
  | _ => false
  termination_by structural x => x
end
/-- A row is one of kinds; a list has such elements. -/
def E.rok (vk : List VK) : List CE → E → Bool
  | [], .nil => true
  | some k :: ks, .cons a t => a.rng vk k && t.rok vk ks
  | none :: ks, .consb _ t => t.rok vk ks
  | _, _ => false
def ceSame : List CE → List CE → Bool
  | [], [] => true
  | some k :: l, some k' :: r => kdSame k k' && ceSame l r
  | none :: l, none :: r => ceSame l r
  | _, _ => false
def E.lok (vk : List VK) (ks : List CE) : E → Bool
  | .lvar n => match vk[n]? with | some (.list ks') => ceSame ks' ks | _ => false
  | .lnil => true
  | .lset a _ c x => a.lok vk ks && (match ks[c]? with | some (some k) => x.rng vk k | _ => false)
  | .lsetb a _ c _ => a.lok vk ks && (match ks[c]? with | some none => true | _ => false)
  | .lapp a r => a.lok vk ks && r.rok vk ks
  | .lput a _ r => a.lok vk ks && r.rok vk ks
  | .lcat a b => a.lok vk ks && b.lok vk ks
  | .lrep _ r => r.rok vk ks
  | .ltake a _ | .ldrop a _ => a.lok vk ks
  | _ => false

structure Vk (ρ : Env) (vk : List VK) : Prop where
  i : ∀ n k, vk[n]? = some (.int k) → inK k (ρ.i n) = true
  l : ∀ n ks, vk[n]? = some (.list ks) → RowsIn ks (ρ.l n)

theorem tmod_le (n : Nat) (b : Int) : 0 ≤ (n : Int).tmod b ∧ (n : Int).tmod b ≤ n := by
  have h2 : 0 ≤ (n : Int).tmod b := Int.tmod_nonneg _ (by omega)
  have h1 : ((n : Int).tmod b).natAbs = n % b.natAbs := by rw [Int.natAbs_tmod]; rfl
  have h3 := Nat.mod_le n b.natAbs
  have h4 := Int.natAbs_of_nonneg h2
  omega
theorem tmod_rng {a b : Int} : (0 ≤ a → 0 ≤ a.tmod b ∧ a.tmod b ≤ a) ∧ (a ≤ 0 → a ≤ a.tmod b ∧ a.tmod b ≤ 0) := by
  constructor
  · intro h
    obtain ⟨n, rfl⟩ := Int.eq_ofNat_of_zero_le h
    exact tmod_le n b
  · intro h
    obtain ⟨n, hn⟩ := Int.eq_ofNat_of_zero_le (show 0 ≤ -a by omega)
    have ha : a = -(n : Int) := by omega
    subst ha
    rw [Int.neg_tmod]
    have := tmod_le n b
    omega
theorem fdiv_rng {a : Int} {n : Nat} : (0 ≤ a → 0 ≤ a.fdiv (2 ^ n) ∧ a.fdiv (2 ^ n) ≤ a) ∧ (a ≤ 0 → a ≤ a.fdiv (2 ^ n) ∧ a.fdiv (2 ^ n) ≤ 0) := by
  have hp : (0 : Int) < 2 ^ n := Int.pow_pos (by omega)
  rw [Int.fdiv_eq_ediv_of_nonneg _ (by omega)]
  constructor
  · intro h
    exact ⟨Int.ediv_nonneg h (by omega), Int.ediv_le_self _ h⟩
  · intro h
    refine ⟨?_, Int.ediv_nonpos_of_nonpos_of_neg h hp⟩
    rw [Int.le_ediv_iff_mul_le hp]
    have h1 : (1 : Int) ≤ 2 ^ n := by omega
    have := Int.mul_le_mul_of_nonpos_left h h1
    omega

theorem ceSame_eq : ∀ {a b : List CE}, ceSame a b = true → a = b
  | [], [], _ => rfl
  | some k :: l, some k' :: r, h => by
    simp only [ceSame, Bool.and_eq_true] at h
    rw [kdSame_eq h.1, ceSame_eq h.2]
  | none :: l, none :: r, h => by rw [ceSame_eq (a := l) (b := r) h]
theorem rowIn_get {ks : List CE} {r : List Int} (h : rowIn ks r = true) {c : Nat} {k : CE} (hc : ks[c]? = some k) : inCE k (r.getD c 0) = true := by
  induction ks generalizing r c with
  | nil => simp at hc
  | cons k0 ks ih =>
    cases r with
    | nil => cases h
    | cons x xs =>
      simp only [rowIn, Bool.and_eq_true] at h
      cases c with
      | zero => simp at hc; subst hc; exact h.1
      | succ c => simpa using ih h.2 (by simpa using hc)
theorem rowIn_length {ks : List CE} {r : List Int} (h : rowIn ks r = true) : r.length = ks.length := by
  induction ks generalizing r with
  | nil => cases r with
    | nil => rfl
    | cons => cases h
  | cons k0 ks ih => cases r with
    | nil => cases h
    | cons x xs =>
      simp only [rowIn, Bool.and_eq_true] at h
      simp [ih h.2]
theorem rowIn_set {ks : List CE} {r : List Int} (h : rowIn ks r = true) {c : Nat} {k : CE} (hc : ks[c]? = some k) {x : Int} (hx : inCE k x = true) : rowIn ks (r.set c x) = true := by
  induction ks generalizing r c with
  | nil => simp at hc
  | cons k0 ks ih =>
    cases r with
    | nil => cases h
    | cons y ys =>
      simp only [rowIn, Bool.and_eq_true] at h
      cases c with
      | zero => simp at hc; subst hc; simp [rowIn, hx, h.2]
      | succ c => simp [rowIn, h.1, ih h.2 (by simpa using hc)]
theorem gt_in {L : List (List Int)} {c : Nat} {k : IntKind} (h : ∀ r ∈ L, inK k (r.getD c 0) = true) (i : Int) : inK k (gt L i c) = true := by
  unfold gt
  cases hr : L[i.toNat]? with
  | none =>
    rw [show L.getD i.toNat [] = [] from by rw [List.getD_eq_getElem?_getD, hr]; rfl]
    exact inK_zero k
  | some r =>
    rw [show L.getD i.toNat [] = r from by rw [List.getD_eq_getElem?_getD, hr]; rfl]
    exact h r (List.mem_of_getElem? hr)
theorem mem_st {L : List (List Int)} {i : Int} {c : Nat} {x : Int} {r : List Int} (h : r ∈ st L i c x) : r ∈ L ∨ (∃ r0 ∈ L, r = r0.set c x) := by
  unfold st at h
  rcases List.mem_or_eq_of_mem_set h with h1 | h1
  · exact .inl h1
  · by_cases hi : i.toNat < L.length
    · refine .inr ⟨L[i.toNat], List.getElem_mem _, ?_⟩
      rw [h1, List.getD_eq_getElem?_getD, List.getElem?_eq_getElem hi]
      rfl
    · rw [List.set_eq_of_length_le (by omega)] at h
      exact .inl h
theorem st_length (L : List (List Int)) (i : Int) (c : Nat) (x : Int) : (st L i c x).length = L.length := by simp [st]
theorem set_getD {r : List Int} {c c' : Nat} {x : Int} (h : c' ≠ c) : (r.set c' x).getD c 0 = r.getD c 0 := by
  simp [List.getD_eq_getElem?_getD, List.getElem?_set_ne h]
theorem set_getD_same {r : List Int} {c : Nat} {x : Int} {k : IntKind} (hx : inK k x = true) : inK k ((r.set c x).getD c 0) = true := by
  rw [List.getD_eq_getElem?_getD, List.getElem?_set]
  simp only [if_true]
  split
  · simpa using hx
  · simpa using inK_zero k

theorem lenok_ok {ρ : Env} {vk : List VK} (hv : Vk ρ vk) : ∀ (e : E), e.lenok vk = true → (e.R ρ).length ≤ maxLen := by
  intro e
  induction e <;> intro h <;> simp only [E.lenok] at h <;> first | cases h | skip
  case lvar n =>
    split at h
    · rename_i ks hk; exact (hv.l n ks hk).len
    · cases h
  case lnil => simp [E.R]
  case lset ih _ _ => simpa [E.R, st_length] using ih h
  case lput ih _ _ => simpa [E.R] using ih h
  case lsetb ih _ _ => simpa [E.R, st_length] using ih h
  case ltake ih _ => exact Nat.le_trans (by simp only [E.R, List.length_take]; omega) (ih h)
  case ldrop ih _ => exact Nat.le_trans (by simp [E.R]) (ih h)

theorem E.rngs_ok {ρ : Env} {vk : List VK} (hv : Vk ρ vk) : ∀ (e : E), (∀ k, e.rng vk k = true → inK k (e.I ρ) = true) ∧ (∀ k c, e.col vk k c = true → ∀ r ∈ e.R ρ, inK k (r.getD c 0) = true) ∧ (∀ k c, e.rcol vk k c = true → inK k ((e.L ρ).getD c 0) = true) ∧ (∀ k, e.lrng vk k = true → ∀ x ∈ e.L ρ, inK k x = true) := by
  intro e
  induction e <;> refine ⟨fun k h => ?_, fun k c h => ?_, fun k c h => ?_, fun k h => ?_⟩ <;> (try simp only [E.rng, E.col, E.rcol, E.lrng] at h) <;> first | exact Bool.noConfusion h | skip
  case lit.refine_1 => exact h
  case var.refine_1 n =>
    split at h
    · rename_i k' hk
      have := hv.i n k' hk
      rw [kdSame_eq h] at this
      exact this
    · cases h
  case bin.refine_1 op k' a b iha ihb =>
    rw [Bool.and_eq_true] at h
    obtain ⟨h1, h2⟩ := h
    have := kdSame_eq h1
    subst this
    have tail : ∀ x : Int, a.rng vk k' = true → ((0 ≤ a.I ρ → 0 ≤ x ∧ x ≤ a.I ρ) ∧ (a.I ρ ≤ 0 → a.I ρ ≤ x ∧ x ≤ 0)) → inK k' x = true := by
      intro x ha hx
      have h3 := inK_iff.1 (iha.1 k' ha)
      have := kmin_le k'
      have := kmax_ge k'
      rw [inK_iff]
      by_cases h0 : 0 ≤ a.I ρ
      · have := hx.1 h0; omega
      · have := hx.2 (by omega); omega
    simp only [E.I]
    cases op <;> first
      | exact inK_wrap _ _
      | exact inK_bits _ _ _ _
      | exact tail _ h2 tmod_rng
      | exact tail _ h2 fdiv_rng
      | cases h2
  case conv.refine_1 k' a _ => rw [← kdSame_eq h]; exact inK_wrap _ _
  case mn.refine_1 a b iha ihb =>
    rw [Bool.and_eq_true] at h
    have h1 := inK_iff.1 (iha.1 k h.1)
    have h2 := inK_iff.1 (ihb.1 k h.2)
    rw [inK_iff]
    simp only [E.I]
    omega
  case mx.refine_1 a b iha ihb =>
    rw [Bool.and_eq_true] at h
    have h1 := inK_iff.1 (iha.1 k h.1)
    have h2 := inK_iff.1 (ihb.1 k h.2)
    rw [inK_iff]
    simp only [E.I]
    omega
  case len.refine_1 a _ =>
    rw [Bool.and_eq_true] at h
    have h1 := lenok_ok hv a h.2
    rw [← kdSame_eq h.1, inK_iff]
    simp only [E.I, maxLen] at h1 ⊢
    simp only [IntKind.min, IntKind.max, IntKind.signed, IntKind.bits]
    simp
    omega
  case get.refine_1 a i c iha _ => exact gt_in (iha.2.1 k c h) _
  case mix.refine_1 l key _ _ =>
    rw [Bool.and_eq_true] at h
    have h1 := lenok_ok hv l h.2
    have h2 := mixI_le (l.R ρ) (key.L ρ)
    rw [← kdSame_eq h.1, inK_iff]
    simp only [E.I, maxLen] at h1 ⊢
    simp only [IntKind.min, IntKind.max, IntKind.signed, IntKind.bits]
    simp
    omega
  case nth.refine_1 i l _ ihl =>
    simp only [E.I]
    rw [List.getD_eq_getElem?_getD]
    cases hx : (l.L ρ)[(i.I ρ).toNat]? with
    | none => exact inK_zero k
    | some x => exact ihl.2.2.2 k h x (List.mem_of_getElem? hx)
  case ite.refine_1 c a b _ iha ihb =>
    rw [Bool.and_eq_true] at h
    simp only [E.I]
    split
    · exact iha.1 k h.1
    · exact ihb.1 k h.2
  case nil.refine_4 => intro x hx; simp [E.L] at hx
  case cons.refine_4 a t iha iht =>
    rw [Bool.and_eq_true] at h
    intro x hx
    simp only [E.L, List.mem_cons] at hx
    rcases hx with rfl | hx
    · exact iha.1 k h.1
    · exact iht.2.2.2 k h.2 x hx
  case nil.refine_3 => simpa [E.L] using inK_zero k
  case cons.refine_3 a t iha iht =>
    cases c with
    | zero => simpa [E.L] using iha.1 k h
    | succ c => simpa [E.L] using iht.2.2.1 k c h
  case consb.refine_3 b t _ iht =>
    cases c with
    | zero => cases h
    | succ c => simpa [E.L] using iht.2.2.1 k c h
  case lvar.refine_2 n =>
    split at h
    · rename_i ks hks
      split at h
      · rename_i k' hk
        intro r hr
        have := rowIn_get ((hv.l n ks hks).row r hr) hk
        rw [kdSame_eq h] at this
        exact this
      · cases h
    · cases h
  case lnil.refine_2 => intro r hr; cases hr
  case lset.refine_2 a i c' x iha _ ihx =>
    rw [Bool.and_eq_true] at h
    intro r hr
    rcases mem_st hr with hr | ⟨r0, hr0, rfl⟩
    · exact iha.2.1 k c h.1 r hr
    · by_cases hc : c' = c
      · subst hc
        have h2 := h.2
        rw [show Nat.beq c' c' = true from by simp] at h2
        exact set_getD_same (ihx.1 k (by simpa using h2))
      · rw [set_getD hc]; exact iha.2.1 k c h.1 r0 hr0
  case lsetb.refine_2 a i c' x iha _ _ =>
    rw [Bool.and_eq_true] at h
    intro r hr
    have hc : c' ≠ c := fun e => by have := h.2; rw [e] at this; simp at this
    rcases mem_st hr with hr | ⟨r0, hr0, rfl⟩
    · exact iha.2.1 k c h.1 r hr
    · rw [set_getD hc]; exact iha.2.1 k c h.1 r0 hr0
  case lput.refine_2 a i r iha _ ihr =>
    rw [Bool.and_eq_true] at h
    intro x hx
    rcases List.mem_or_eq_of_mem_set hx with hx | rfl
    · exact iha.2.1 k c h.1 x hx
    · exact ihr.2.2.1 k c h.2
  case lapp.refine_2 a r iha ihr =>
    rw [Bool.and_eq_true] at h
    intro x hx
    simp only [E.R, List.mem_append, List.mem_singleton] at hx
    rcases hx with hx | rfl
    · exact iha.2.1 k c h.1 x hx
    · exact ihr.2.2.1 k c h.2
  case lcat.refine_2 a b iha ihb =>
    rw [Bool.and_eq_true] at h
    intro x hx
    simp only [E.R, List.mem_append] at hx
    rcases hx with hx | hx
    · exact iha.2.1 k c h.1 x hx
    · exact ihb.2.1 k c h.2 x hx
  case lrep.refine_2 n r _ ihr =>
    intro x hx
    simp only [E.R, List.mem_replicate] at hx
    rw [hx.2]
    exact ihr.2.2.1 k c h
  case ltake.refine_2 a n iha _ => intro x hx; exact iha.2.1 k c h x (List.mem_of_mem_take hx)
  case ldrop.refine_2 a n iha _ => intro x hx; exact iha.2.1 k c h x (List.mem_of_mem_drop hx)
theorem E.rng_ok {ρ : Env} {vk : List VK} {k : IntKind} (hv : Vk ρ vk) (e : E) (h : e.rng vk k = true) : inK k (e.I ρ) = true := (E.rngs_ok hv e).1 k h
theorem E.rok_ok {ρ : Env} {vk : List VK} (hv : Vk ρ vk) : ∀ {ks : List CE} {e : E}, e.rok vk ks = true → rowIn ks (e.L ρ) = true := by
  intro ks
  induction ks with
  | nil => intro e h; cases e <;> first | rfl | cases h
  | cons k ks ih =>
    intro e h
    cases k with
    | none =>
      cases e <;> first | cases h | skip
      simp only [E.rok] at h
      rename_i b t
      simp only [E.L, rowIn, Bool.and_eq_true]
      exact ⟨by cases b.B ρ <;> rfl, ih h⟩
    | some k =>
      cases e <;> first | cases h | skip
      simp only [E.rok, Bool.and_eq_true] at h
      simp only [E.L, rowIn, Bool.and_eq_true]
      exact ⟨E.rng_ok hv _ h.1, ih h.2⟩
theorem b2i_in (b : Bool) : inCE none (b2i b) = true := by cases b <;> rfl
theorem E.lok_ok {ρ : Env} {vk : List VK} (hv : Vk ρ vk) {ks : List CE} : ∀ (e : E), e.lok vk ks = true → ∀ r ∈ e.R ρ, rowIn ks r = true := by
  intro e
  induction e <;> intro h <;> simp only [E.lok] at h <;> first | exact Bool.noConfusion h | skip
  case lvar n =>
    split at h
    · rename_i ks' hk
      rw [← ceSame_eq h]
      exact (hv.l n ks' hk).row
    · cases h
  case lnil => intro r hr; cases hr
  case lset a i c x iha _ _ =>
    rw [Bool.and_eq_true] at h
    intro r hr
    rcases mem_st hr with hr | ⟨r0, hr0, rfl⟩
    · exact iha h.1 r hr
    · have h2 := h.2
      split at h2
      · rename_i k hk
        exact rowIn_set (iha h.1 r0 hr0) hk (E.rng_ok hv x h2)
      · cases h2
  case lsetb a i c x iha _ _ =>
    rw [Bool.and_eq_true] at h
    intro r hr
    rcases mem_st hr with hr | ⟨r0, hr0, rfl⟩
    · exact iha h.1 r hr
    · have h2 := h.2
      split at h2
      · rename_i hk
        exact rowIn_set (iha h.1 r0 hr0) hk (b2i_in _)
      · cases h2
  case lput a i r iha _ _ =>
    rw [Bool.and_eq_true] at h
    intro x hx
    rcases List.mem_or_eq_of_mem_set hx with hx | rfl
    · exact iha h.1 x hx
    · exact E.rok_ok hv h.2
  case lapp a r iha _ =>
    rw [Bool.and_eq_true] at h
    intro x hx
    simp only [E.R, List.mem_append, List.mem_singleton] at hx
    rcases hx with hx | rfl
    · exact iha h.1 x hx
    · exact E.rok_ok hv h.2
  case lcat a b iha ihb =>
    rw [Bool.and_eq_true] at h
    intro x hx
    simp only [E.R, List.mem_append] at hx
    rcases hx with hx | hx
    · exact iha h.1 x hx
    · exact ihb h.2 x hx
  case lrep n r _ _ =>
    intro x hx
    simp only [E.R, List.mem_replicate] at hx
    rw [hx.2]
    exact E.rok_ok hv h
  case ltake a n iha _ => intro x hx; exact iha h x (List.mem_of_mem_take hx)
  case ldrop a n iha _ => intro x hx; exact iha h x (List.mem_of_mem_drop hx)

/-! ### Decisions -/
def Kw.look (e : E) : List (E × Bool) → Option Bool
  | [] => none
  | (x, b) :: l => if x.same e then some b else Kw.look e l

structure Good (sp : Spec) (sm : List Sm) (ρ : Env) (kw : Kw) : Prop where
  pc : ∀ p ∈ kw.pc, p.1.B ρ = p.2
  vk : Vk ρ kw.vk
  log : ∀ p ∈ kw.log, ∃ s ∈ sm, s.key = p.1 ∧ sp.pre s.key (p.2.1.D ρ) ∧ eqs ρ (sp.F s.key (p.2.1.D ρ)) p.2.2 0 s.ks

theorem look_ok {ρ : Env} {e : E} {b : Bool} : ∀ {l : List (E × Bool)}, (∀ p ∈ l, p.1.B ρ = p.2) → Kw.look e l = some b → e.B ρ = b
  | (x, c) :: l, hl, h => by
    simp only [Kw.look] at h
    split at h
    · rename_i hs
      have := hl (x, c) List.mem_cons_self
      rw [← E.same_eq hs]
      cases h
      exact this
    · exact look_ok (fun p hp => hl p (List.mem_cons_of_mem _ hp)) h

/-- What the kinds' ranges decide. -/
def rngDec (vk : List VK) : E → Option Bool
  | .lt (.lit z) (.var n) => match vk[n]? with
    | some (.int k) => if decide (k.max ≤ z) then some false else none
    | _ => none
  | .lt (.var n) (.lit z) => match vk[n]? with
    | some (.int k) => if decide (z ≤ k.min) then some false else none
    | _ => none
  | .lt (.len _) (.lit z) => if decide (z ≤ 0) then some false else none
  | _ => none
theorem rngDec_ok {ρ : Env} {vk : List VK} (hv : Vk ρ vk) {e : E} {b : Bool} (h : rngDec vk e = some b) : e.B ρ = b := by
  unfold rngDec at h
  split at h
  · split at h
    · rename_i k hk
      split at h
      · rename_i hz
        cases h
        have h1 := inK_iff.1 (hv.i _ _ hk)
        have h2 := of_decide_eq_true hz
        simp only [E.B, E.I]
        exact decide_eq_false (by omega)
      · cases h
    · cases h
  · split at h
    · rename_i k hk
      split at h
      · rename_i hz
        cases h
        have h1 := inK_iff.1 (hv.i _ _ hk)
        have h2 := of_decide_eq_true hz
        simp only [E.B, E.I]
        exact decide_eq_false (by omega)
      · cases h
    · cases h
  · split at h
    · rename_i hz
      cases h
      have h2 := of_decide_eq_true hz
      simp only [E.B, E.I]
      exact decide_eq_false (by omega)
    · cases h
  · cases h
def decA (e : E) (k : Bool → Kw → Tr) (kw : Kw) : Tr :=
  match rngDec kw.vk e with
  | some b => k b kw
  | none => match Kw.look e kw.pc with
  | some b => k b kw
  | none => .br e (k true { kw with pc := (e, true) :: kw.pc }) (k false { kw with pc := (e, false) :: kw.pc })
def decK : E → (Bool → Kw → Tr) → Kw → Tr
  | .tt b, k, kw => k b kw
  | .not a, k, kw => decK a (fun b kw => k (!b) kw) kw
  | .and a b, k, kw => decK a (fun x kw => if x then decK b k kw else k false kw) kw
  | e, k, kw => decA e k kw

section
variable {sp : Spec} {sm : List Sm} {ρ : Env} {G : Env → E → Prop} {I : Nat → List Dt → Prop}
theorem decA_ok {e : E} {k : Bool → Kw → Tr} {kw : Kw} (h : (decA e k kw).holds sp G ρ I) (hg : Good sp sm ρ kw) : ∃ kw', (k (e.B ρ) kw').holds sp G ρ I ∧ Good sp sm ρ kw' ∧ kw'.vk = kw.vk ∧ KwGe kw' kw := by
  unfold decA at h
  split at h
  · rename_i b hb
    rw [rngDec_ok hg.vk hb]
    exact ⟨kw, h, hg, rfl, .refl _⟩
  split at h
  · rename_i b hb
    rw [look_ok hg.pc hb]
    exact ⟨kw, h, hg, rfl, .refl _⟩
  · cases hb : e.B ρ with
    | true => exact ⟨_, h.1 hb, ⟨fun p hp => by
        rcases List.mem_cons.1 hp with rfl | hp
        · exact hb
        · exact hg.pc p hp, hg.vk, hg.log⟩, rfl, rfl, Nat.le_refl _⟩
    | false => exact ⟨_, h.2 hb, ⟨fun p hp => by
        rcases List.mem_cons.1 hp with rfl | hp
        · exact hb
        · exact hg.pc p hp, hg.vk, hg.log⟩, rfl, rfl, Nat.le_refl _⟩

theorem decK_ok : ∀ (e : E) (k : Bool → Kw → Tr) (kw : Kw), (decK e k kw).holds sp G ρ I → Good sp sm ρ kw → ∃ kw', (k (e.B ρ) kw').holds sp G ρ I ∧ Good sp sm ρ kw' ∧ kw'.vk = kw.vk ∧ KwGe kw' kw
  | .tt b, k, kw, h, hg => ⟨kw, h, hg, rfl, .refl _⟩
  | .not a, k, kw, h, hg => decK_ok a (fun b kw => k (!b) kw) kw h hg
  | .and a b, k, kw, h, hg => by
    obtain ⟨kw1, h1, g1, v1, l1⟩ := decK_ok a _ kw h hg
    simp only [E.B]
    cases ha : a.B ρ with
    | true =>
      rw [ha] at h1
      obtain ⟨kw2, h2, g2, v2, l2⟩ := decK_ok b k kw1 h1 g1
      exact ⟨kw2, h2, g2, v2.trans v1, l2.trans l1⟩
    | false =>
      rw [ha] at h1
      exact ⟨kw1, h1, g1, v1, l1⟩
  | .lit _, k, kw, h, hg | .var _, k, kw, h, hg | .bin _ _ _ _, k, kw, h, hg | .conv _ _, k, kw, h, hg | .mn _ _, k, kw, h, hg | .mx _ _, k, kw, h, hg | .nil, k, kw, h, hg
  | .len _, k, kw, h, hg | .get _ _ _, k, kw, h, hg | .consl _ _, k, kw, h, hg | .getb _ _ _, k, kw, h, hg | .lvar _, k, kw, h, hg | .lnil, k, kw, h, hg | .lset _ _ _ _, k, kw, h, hg | .lsetb _ _ _ _, k, kw, h, hg | .lapp _ _, k, kw, h, hg | .lcat _ _, k, kw, h, hg | .lrep _ _, k, kw, h, hg | .ltake _ _, k, kw, h, hg | .ldrop _ _, k, kw, h, hg | .mix _ _, k, kw, h, hg | .lput _ _ _, k, kw, h, hg | .nth _ _, k, kw, h, hg | .ite _ _ _, k, kw, h, hg
  | .cons _ _, k, kw, h, hg | .consb _ _, k, kw, h, hg | .bvar _, k, kw, h, hg | .lt _ _, k, kw, h, hg | .eq _ _, k, kw, h, hg | .beq _ _, k, kw, h, hg => decA_ok h hg
end
end Go.Proofs.Ytgfghplnankgnaa


/- What each kind of operation does in a symbolic run. Nothing of the program is in here. -/
set_option linter.unusedVariables false
set_option linter.unusedSimpArgs false
namespace Go.Proofs.Ytgfghplnankgnaa
open Go.RowKit

/-- What an operation does to rows: one's elements are others; new ones; one that is taken over by a new one; one that is read through a new one. -/
inductive RE where
  | none
  | set (id : Nat) (r : RowOb)
  | mk (rs : List RowOb)
  | app (old : Nat) (r : RowOb)
  | view (old : Nat) (q r : RowOb)
  deriving Repr, Inhabited
def mkRs : Nat → List RowOb → List (Nat × Option RowOb)
  | _, [] => []
  | n, r :: l => (n, some r) :: mkRs (n + 1) l
def RE.rs (nid : Nat) : RE → List (Nat × Option RowOb)
  | .none => []
  | .set id r => [(id, some r)]
  | .mk rs => mkRs nid rs
  | .app old r => [(old, Option.none), (nid, some r)]
  | .view old q r => [(old, some q), (nid, some r)]
/-- n cells of a box from a place on. -/
def rowOf (ld : Nat → Nat → Option C) (b : Nat) : Nat → Nat → Option (List C)
  | _, 0 => some []
  | o, n + 1 => match ld b o, rowOf ld b (o + 1) n with
    | some c, some cs => some (c :: cs)
    | _, _ => none
/-- The same, at once. -/
def takeN : List C → Nat → Option (List C)
  | _, 0 => some []
  | c :: cs, n + 1 => (takeN cs n).map (c :: ·)
  | [], _ + 1 => none
def seg : List C → Nat → Nat → Option (List C)
  | cs, 0, n => takeN cs n
  | _ :: cs, o + 1, n => seg cs o n
  | [], _ + 1, _ => none
theorem takeN_ok {ld : Nat → Nat → Option C} {b : Nat} : ∀ {n : Nat} {cs ds : List C} {o : Nat}, takeN cs n = some ds → (∀ i, ld b (o + i) = cs[i]?) → rowOf ld b o n = some ds
  | 0, cs, ds, o, h, _ => by
    have : ds = [] := by cases cs <;> simpa [takeN] using h.symm
    subst this
    rfl
  | n + 1, c :: cs, ds, o, h, hl => by
    simp only [takeN, Option.map_eq_some_iff] at h
    obtain ⟨es, h1, rfl⟩ := h
    have h2 := takeN_ok (ld := ld) (b := b) (o := o + 1) h1 (fun i => by rw [show o + 1 + i = o + (i + 1) by omega, hl]; rfl)
    have h0 := hl 0
    simp only [Nat.add_zero, List.getElem?_cons_zero] at h0
    simp only [rowOf, h0, h2]
  | n + 1, [], ds, o, h, _ => by cases h
theorem seg_ok {ld : Nat → Nat → Option C} {b : Nat} {n : Nat} : ∀ {o k : Nat} {cs ds : List C}, seg cs o n = some ds → (∀ i, ld b (k + i) = cs[i]?) → rowOf ld b (k + o) n = some ds
  | 0, k, cs, ds, h, hl => takeN_ok (cs := cs) (by cases cs <;> exact h) hl
  | o + 1, k, c :: cs, ds, h, hl => by
    have := seg_ok (ld := ld) (b := b) (o := o) (k := k + 1) (cs := cs) (ds := ds) h (fun i => by rw [show k + 1 + i = k + (i + 1) by omega, hl]; rfl)
    rwa [show k + (o + 1) = k + 1 + o by omega]
  | o + 1, k, [], ds, h, _ => by cases h
/-- What an operation looks at. -/
structure Vw where
  ev : Operand → Option V
  ld : Nat → Nat → Option C
  rw : Nat → Option RowOb
  fb : Nat → Option (List C)
  nid : Nat
  row : Nat → Nat → Nat → Option (List C)
  rowok : ∀ b o n cs, row b o n = some cs → rowOf ld b o n = some cs
/-- A slice's row. -/
def Vw.sw (vw : Vw) (id : Nat) : Option RowOb := match vw.rw id with
  | some r => if r.kd.isSl then some r else none
  | none => none
theorem Vw.sw_some {vw : Vw} {id : Nat} {r : RowOb} (h : vw.sw id = some r) : vw.rw id = some r ∧ r.kd = .sl := by
  unfold Vw.sw at h
  split at h
  · rename_i q hq
    split at h
    · rename_i hk
      cases h
      refine ⟨hq, ?_⟩
      cases hd : r.kd with
      | sl => rfl
      | _ => rw [hd] at hk; cases hk
    · cases h
  · cases h

structure Eff where
  val : V
  al : Option (List C × Nat) := none
  rd : List (Nat × Nat) := []
  wr : List (Nat × Nat × C) := []
  rr : List Nat := []
  re : RE := .none
  deriving Repr, Inhabited

def ofCell : Value → Option C
  | .int k z => some (.int k (.lit z))
  | .bool b => some (.bool (.tt b))
  | .pointer none => some .nilp
  | .func (.func f) ⟨[]⟩ ⟨[]⟩ => some (.fn f)
  | .slice none 0 0 => some .nsl
  | .nilFunc => some .nilf
  | .map none => some .nmp
  | _ => none
def ofCells : List Value → Option (List C)
  | [] => some []
  | v :: vs => match ofCell v, ofCells vs with
    | some c, some cs => some (c :: cs)
    | _, _ => none
def ofValue : Value → Option V
  | .agg ⟨vs⟩ => (ofCells vs).map .agg
  | v => (ofCell v).map .one

theorem ofCell_ok {v : Value} {c : C} (h : ofCell v = some c) (ρ : Env) (j : J) : c.den ρ j = some v := by
  unfold ofCell at h
  split at h <;> cases h <;> rfl
theorem ofCells_ok (ρ : Env) (j : J) : ∀ {vs : List Value} {cs : List C}, ofCells vs = some cs → denL ρ j cs = some vs
  | [], cs, h => by cases h; rfl
  | v :: vs, cs, h => by
    simp only [ofCells] at h
    cases hc : ofCell v with
    | none => rw [hc] at h; cases h
    | some c =>
      cases hl : ofCells vs with
      | none => rw [hc, hl] at h; cases h
      | some l =>
        rw [hc, hl] at h; cases h
        simp only [denL, ofCell_ok hc, ofCells_ok ρ j hl]
theorem ofValue_ok {v : Value} {x : V} (h : ofValue v = some x) (ρ : Env) (j : J) : x.den ρ j = some v := by
  unfold ofValue at h
  split at h
  · rename_i vs
    cases hc : ofCells vs with
    | none => rw [hc] at h; cases h
    | some cs =>
      rw [hc] at h; cases h
      simp [V.den, ofCells_ok ρ j hc]
  · cases hc : ofCell v with
    | none => rw [hc] at h; cases h
    | some c =>
      rw [hc] at h; cases h
      exact ofCell_ok hc ρ j

def V.cells : V → List C
  | .one c => [c]
  | .agg cs => cs
  | .tup _ => []
  | .top => []
def V.flat : V → Bool
  | .tup _ => false
  | .top => false
  | _ => true
theorem den_oneCell {ρ : Env} {j : J} {c : C} {v : Value} (h : c.den ρ j = some v) : v.cells = #[v] := by
  cases c <;> simp only [C.den, Option.map_eq_some_iff] at h
  case ptr b o => obtain ⟨k, _, rfl⟩ := h; rfl
  case fp b o => obtain ⟨k, _, rfl⟩ := h; rfl
  case sl id => obtain ⟨k, _, rfl⟩ := h; rfl
  case ep id esz e off =>
    simp only [Option.bind_eq_some_iff, SV.elem, Option.map_eq_some_iff] at h
    obtain ⟨k, _, a, _, rfl⟩ := h
    rfl
  case clo => obtain ⟨x, y, _, _, rfl⟩ := cloV_some h; rfl
  case mp id => obtain ⟨k, _, rfl⟩ := h; rfl
  case pe b o n sz e off => obtain ⟨k, _, rfl⟩ := h; rfl
  case itp id mid => obtain ⟨_, _, _, _, _, rfl⟩ := itp_of (ρ := ρ) h; rfl
  all_goals cases h; rfl
theorem V.cells_ok {ρ : Env} {j : J} {x : V} {v : Value} (h : x.den ρ j = some v) (hf : x.flat = true) : denL ρ j x.cells = some v.cells.toList := by
  cases x with
  | one c =>
    have h' : c.den ρ j = some v := h
    simp [V.cells, denL, h', den_oneCell h']
  | agg cs =>
    simp only [V.den, Option.map_eq_some_iff] at h
    obtain ⟨vs, hvs, rfl⟩ := h
    simpa [V.cells, Value.cells] using hvs
  | tup _ => cases hf
  | top => cases hf

def C.solid : C → Bool
  | .undef => false
  | _ => true
theorem C.solid_ok {ρ : Env} {j : J} {c : C} {v : Value} (h : c.den ρ j = some v) (hs : c.solid = true) : v.oneCell' = true := by
  cases c <;> simp only [C.den, Option.map_eq_some_iff] at h
  case ptr b o => obtain ⟨k, _, rfl⟩ := h; rfl
  case fp b o => obtain ⟨k, _, rfl⟩ := h; rfl
  case sl id => obtain ⟨k, _, rfl⟩ := h; rfl
  case ep id esz e off =>
    simp only [Option.bind_eq_some_iff, SV.elem, Option.map_eq_some_iff] at h
    obtain ⟨k, _, a, _, rfl⟩ := h
    rfl
  case undef => cases hs
  case clo => obtain ⟨x, y, _, _, rfl⟩ := cloV_some h; rfl
  case mp id => obtain ⟨k, _, rfl⟩ := h; rfl
  case pe b o n sz e off => obtain ⟨k, _, rfl⟩ := h; rfl
  case itp id mid => obtain ⟨_, _, _, _, _, rfl⟩ := itp_of (ρ := ρ) h; rfl
  all_goals cases h; rfl

def rowRd (b : Nat) : Nat → Nat → List (Nat × Nat)
  | _, 0 => []
  | o, n + 1 => (b, o) :: rowRd b (o + 1) n
def rowWr (b : Nat) : Nat → List C → List (Nat × Nat × C)
  | _, [] => []
  | o, c :: cs => (b, o, c) :: rowWr b (o + 1) cs

/-! ### Equality of rows of cells -/
def eqCells0 : List C → List C → Option E
  | [], [] => some (.tt true)
  | .int k a :: l, .int k' b :: r => if kdSame k k' then (eqCells0 l r).map (mkAnd (mkEq a b)) else none
  | .bool a :: l, .bool b :: r => (eqCells0 l r).map (mkAnd (mkBeq a b))
  | _, _ => none
/-- Equality of many cells is one condition. -/
def wideE (cs : List C) (e : E) : E := match e with
  | .tt b => .tt b
  | e => if Nat.blt 12 cs.length then .beq e (.tt true) else e
theorem wideE_B (ρ : Env) (cs : List C) (e : E) : (wideE cs e).B ρ = e.B ρ := by
  unfold wideE
  split
  · rfl
  · split
    · simp [E.B]
    · rfl
def eqCells (cs ds : List C) : Option E := (eqCells0 cs ds).map (wideE cs)
/-- Rows of whole numbers and truth values, of the same kinds. -/
def simVs : List Value → List Value → Prop
  | [], [] => True
  | .int k _ :: l, .int k' _ :: r => k = k' ∧ simVs l r
  | .bool _ :: l, .bool _ :: r => simVs l r
  | _, _ => False
def eqVs : List Value → List Value → Bool
  | .int _ a :: l, .int _ b :: r => (a == b) && eqVs l r
  | .bool a :: l, .bool b :: r => (a == b) && eqVs l r
  | _, _ => true
def kindsC : List C → List C → Bool
  | [], [] => true
  | .int k _ :: l, .int k' _ :: r => kdSame k k' && kindsC l r
  | .bool _ :: l, .bool _ :: r => kindsC l r
  | _, _ => false
def kindsV : List Value → List C → Prop
  | [], [] => True
  | .int k x :: l, .int k' _ :: r => k = k' ∧ inK k x = true ∧ kindsV l r
  | .bool _ :: l, .bool _ :: r => kindsV l r
  | _, _ => False
/-- All whole numbers of a result are in their kinds' ranges. -/
def C.rng (vk : List VK) : C → Bool
  | .int k e => e.rng vk k
  | _ => true
/-- All whole numbers are in range; a run of variables is looked up along the list of kinds. -/
def rngs (vk : List VK) : List C → List VK → Nat → Bool
  | [], _, _ => true
  | .int k (.var m) :: cs, q, n => match (bif Nat.beq m n then q else vk.drop m) with
    | .int k' :: q' => kdSame k' k && rngs vk cs q' (m + 1)
    | _ => false
  | .int k e :: cs, q, n => e.rng vk k && rngs vk cs q n
  | _ :: cs, q, n => rngs vk cs q n
theorem rngs_ok {vk : List VK} : ∀ (cs : List C) (q : List VK) (n : Nat), q = vk.drop n → rngs vk cs q n = true → cs.all (C.rng vk) = true := by
  intro cs
  induction cs with
  | nil => intros; rfl
  | cons c cs ih =>
    intro q n hq h
    rw [List.all_cons, Bool.and_eq_true]
    cases c with
    | int k e =>
      cases e with
      | var m =>
        have hq' : (bif Nat.beq m n then q else vk.drop m) = vk.drop m := by
          cases hb : Nat.beq m n with
          | false => rfl
          | true => rw [Nat.eq_of_beq_eq_true hb]; exact hq
        simp only [rngs] at h
        rw [hq'] at h
        split at h
        · rename_i k' q' hd
          rw [Bool.and_eq_true] at h
          have h0 : vk[m]? = some (.int k') := by
            have := congrArg (fun l => l[0]?) hd
            simpa using this
          have h1 : q' = vk.drop (m + 1) := by
            have := congrArg List.tail hd
            simpa using this.symm
          refine ⟨?_, ih q' (m + 1) h1 h.2⟩
          show E.rng vk k (.var m) = true
          unfold E.rng
          rw [h0]; exact h.1
        · cases h
      | _ =>
        simp only [rngs] at h
        rw [Bool.and_eq_true] at h
        exact ⟨h.1, ih q n hq h.2⟩
    | _ => exact ⟨rfl, ih q n hq h⟩
theorem kindsC_ok {ρ : Env} {j : J} {vk : List VK} (hv : Vk ρ vk) : ∀ {cs zs : List C} {vs : List Value}, kindsC cs zs = true → cs.all (C.rng vk) = true → denL ρ j cs = some vs → kindsV vs zs
  | [], [], vs, _, _, h => by cases h; trivial
  | .int k a :: l, .int k' b :: r, vs, hk, hr, h => by
    simp only [kindsC, Bool.and_eq_true] at hk
    simp only [List.all_cons, Bool.and_eq_true] at hr
    simp only [denL, C.den] at h
    cases hl : denL ρ j l with
    | none => rw [hl] at h; cases h
    | some us => rw [hl] at h; cases h; exact ⟨kdSame_eq hk.1, E.rng_ok hv a hr.1, kindsC_ok hv hk.2 hr.2 hl⟩
  | .bool a :: l, .bool b :: r, vs, hk, hr, h => by
    simp only [kindsC] at hk
    simp only [List.all_cons, Bool.and_eq_true] at hr
    simp only [denL, C.den] at h
    cases hl : denL ρ j l with
    | none => rw [hl] at h; cases h
    | some us => rw [hl] at h; cases h; exact kindsC_ok (cs := l) (zs := r) hv hk hr.2 hl
theorem kindsV_int {vs : List Value} {k : IntKind} {e : E} {r : List C} (h : kindsV vs (.int k e :: r)) : ∃ x l, vs = .int k x :: l ∧ inK k x = true ∧ kindsV l r := by
  match vs, h with
  | .int k' x :: l, h => exact ⟨x, l, by rw [h.1], by rw [← h.1]; exact h.2.1, h.2.2⟩
theorem kindsV_bool {vs : List Value} {e : E} {r : List C} (h : kindsV vs (.bool e :: r)) : ∃ x l, vs = .bool x :: l ∧ kindsV l r := by
  match vs, h with
  | .bool x :: l, h => exact ⟨x, l, rfl, h⟩
theorem kindsV_nil {vs : List Value} (h : kindsV vs []) : vs = [] := by
  cases vs with
  | nil => rfl
  | cons v l => cases v <;> exact h.elim

theorem eqCells0_ok {ρ : Env} {j : J} : ∀ {cs ds : List C} {e : E}, eqCells0 cs ds = some e → ∃ vs us, denL ρ j cs = some vs ∧ denL ρ j ds = some us ∧ simVs vs us ∧ eqVs vs us = e.B ρ
  | [], [], e, h => by cases h; exact ⟨[], [], rfl, rfl, trivial, rfl⟩
  | .int k a :: l, .int k' b :: r, e, h => by
    simp only [eqCells0] at h
    split at h
    · rename_i hk
      rw [Option.map_eq_some_iff] at h
      obtain ⟨e', he, rfl⟩ := h
      obtain ⟨vs, us, h1, h2, h3, h4⟩ := eqCells0_ok (ρ := ρ) (j := j) he
      refine ⟨.int k (a.I ρ) :: vs, .int k' (b.I ρ) :: us, by simp [denL, C.den, h1], by simp [denL, C.den, h2], ⟨kdSame_eq hk, h3⟩, ?_⟩
      simp [eqVs, h4, mkAnd_B, mkEq_B]
    · cases h
  | .bool a :: l, .bool b :: r, e, h => by
    simp only [eqCells0, Option.map_eq_some_iff] at h
    obtain ⟨e', he, rfl⟩ := h
    obtain ⟨vs, us, h1, h2, h3, h4⟩ := eqCells0_ok (ρ := ρ) (j := j) he
    refine ⟨.bool (a.B ρ) :: vs, .bool (b.B ρ) :: us, by simp [denL, C.den, h1], by simp [denL, C.den, h2], h3, ?_⟩
    simp [eqVs, h4, mkAnd_B, mkBeq_B]
theorem eqCells_ok {ρ : Env} {j : J} {cs ds : List C} {e : E} (h : eqCells cs ds = some e) : ∃ vs us, denL ρ j cs = some vs ∧ denL ρ j ds = some us ∧ simVs vs us ∧ eqVs vs us = e.B ρ := by
  unfold eqCells at h
  rw [Option.map_eq_some_iff] at h
  obtain ⟨e', he, rfl⟩ := h
  obtain ⟨vs, us, h1, h2, h3, h4⟩ := eqCells0_ok (ρ := ρ) (j := j) he
  exact ⟨vs, us, h1, h2, h3, by rw [wideE_B]; exact h4⟩

/-! ### Rows -/
/-- A row's cell as a cell. -/
def rowC (l e : E) (c : Nat) : CE → C
  | some k => .int k (.get l e c)
  | none => .bool (.getb l e c)
def rowCs (l e : E) : Nat → List CE → List C
  | _, [] => []
  | c, k :: ks => rowC l e c k :: rowCs l e (c + 1) ks
/-- Cells laid into a row. -/
def rowPut (vk : List VK) (l e : E) : Nat → List CE → List C → Option E
  | _, _, [] => some l
  | c, some k :: ks, .int k' x :: cs => if kdSame k' k && x.rng vk k then rowPut vk (.lset l e c x) e (c + 1) ks cs else none
  | c, none :: ks, .bool x :: cs => rowPut vk (.lsetb l e c x) e (c + 1) ks cs
  | _, _, _ => none
/-- Cells as a row. -/
def rowE (vk : List VK) : List CE → List C → Option E
  | [], [] => some .nil
  | some k :: ks, .int k' x :: cs => if kdSame k' k && x.rng vk k then (rowE vk ks cs).map (.cons x) else none
  | none :: ks, .bool x :: cs => (rowE vk ks cs).map (.consb x)
  | _, _ => none
def consE (r l : E) : E := match l with
  | .lnil => .lapp .lnil r
  | l => .lcat (.lapp .lnil r) l
theorem consE_R (ρ : Env) (r l : E) : (consE r l).R ρ = r.L ρ :: l.R ρ := by unfold consE; split <;> simp [E.R]
def rowsE (vk : List VK) (ks : List CE) : Nat → List C → Option E
  | 0, [] => some .lnil
  | n + 1, cs => match rowE vk ks (cs.take ks.length), rowsE vk ks n (cs.drop ks.length) with
    | some r, some l => some (consE r l)
    | _, _ => none
  | 0, _ :: _ => none
def ksOf : List C → Option (List CE)
  | [] => some []
  | .int k _ :: cs => (ksOf cs).map (some k :: ·)
  | .bool _ :: cs => (ksOf cs).map (none :: ·)
  | _ => none
def cellV : CE → Int → Value
  | some k, x => .int k x
  | none, x => .bool (x == 1)
def rowV : List CE → List Int → List Value
  | k :: ks, x :: xs => cellV k x :: rowV ks xs
  | _, _ => []
def flat (ks : List CE) (L : List (List Int)) : List Value := L.flatMap (rowV ks)

/-- A slice whose cells are there to be read. -/
def RdRow (w : World) (esz : Nat) (s : SV) (xs : List Value) : Prop :=
  xs.length = s.n * esz ∧ s.n ≤ s.c ∧ s.c ≤ maxLen ∧ (s.a = none → s.n = 0 ∧ s.c = 0) ∧ ∀ a, s.a = some a → ∀ i u, xs[i]? = some u → w.cell? (a.add i) = some u

/-- The block of a row that counts: one's own, or one with cells. -/
def SV.blk (s : SV) (o : Bool) : Option Nat := if (o || !Nat.beq s.c 0) = true then s.v.ownBlock else none
theorem blk_some {s : SV} {o : Bool} {k : Nat} (h : s.blk o = some k) : s.v.ownBlock = some k := by
  unfold SV.blk at h
  split at h
  · exact h
  · cases h
theorem blk_of {s : SV} {o : Bool} {k : Nat} (ho : o = true) (h : s.v.ownBlock = some k) : s.blk o = some k := by rw [ho]; exact h
theorem blk_mono {s : SV} {o : Bool} {k : Nat} (h : s.blk false = some k) : s.blk o = some k := by
  cases o with
  | false => exact h
  | true => exact blk_some h
theorem blk_cells {s : SV} {k : Nat} (hc : s.c ≠ 0) (h : s.v.ownBlock = some k) : s.blk false = some k := by
  unfold SV.blk
  have : Nat.beq s.c 0 = false := by cases hb : Nat.beq s.c 0 with
    | false => rfl
    | true => exact absurd (Nat.eq_of_beq_eq_true hb) hc
  simpa [this] using h
/-! ### Contracts: arguments and results -/
def rowAt (vk : List VK) (rw : Nat → Option RowOb) (ks : List CE) (ty : Nat) : C → Option E
  | .sl id => match rw id with
    | some r => if ceSame r.ks ks && (Nat.beq r.ty ty && r.l.lok vk ks) then some r.l else none
    | none => none
  | .nsl => some .lnil
  | _ => none
def encC (vk : List VK) (rw : Nat → Option RowOb) : CK → C → E → Option E
  | .int k, .int k' e, t => if kdSame k k' && e.rng vk k then some (.cons e t) else none
  | .bool, .bool e, t => some (.consb e t)
  | .fn g, .fn g', t => if Nat.beq g g' then some t else none
  | .lit k z, .int k' (.lit z'), t => if kdSame k k' && zSame z z' then some t else none
  | .sl ks ty, c, t => (rowAt vk rw ks ty c).map fun l => .consl l t
  | .nilf, .nilf, t => some t
  | _, _, _ => none
def encL1 (vk : List VK) (rw : Nat → Option RowOb) : List CK → List C → E → Option E
  | [], [], t => some t
  | k :: ks, c :: cs, t => (encL1 vk rw ks cs t).bind (encC vk rw k c)
  | _, _, _ => none
/-- As `encC`, for numbers known to be in range. -/
def encC0 (vk : List VK) (rw : Nat → Option RowOb) : CK → C → E → Option E
  | .int k, .int k' e, t => if kdSame k k' then some (.cons e t) else none
  | .bool, .bool e, t => some (.consb e t)
  | .fn g, .fn g', t => if Nat.beq g g' then some t else none
  | .lit k z, .int k' (.lit z'), t => if kdSame k k' && zSame z z' then some t else none
  | .sl ks ty, c, t => (rowAt vk rw ks ty c).map fun l => .consl l t
  | .nilf, .nilf, t => some t
  | _, _, _ => none
theorem encC0_eq {vk : List VK} {rw : Nat → Option RowOb} {k : CK} {c : C} {t e : E} (hc : c.rng vk = true) (h : encC0 vk rw k c t = some e) : encC vk rw k c t = some e := by
  unfold encC0 at h
  split at h
  · rename_i k1 k2 x
    split at h
    · rename_i h1
      obtain rfl := kdSame_eq h1
      have h2 : x.rng vk k1 = true := hc
      simp [encC, h1, h2]; exact Option.some.inj h
    · cases h
  all_goals first | exact h | cases h
def encL0 (vk : List VK) (rw : Nat → Option RowOb) : List CK → List C → E → Option E
  | [], [], t => some t
  | k :: ks, c :: cs, t => (encL0 vk rw ks cs t).bind (encC0 vk rw k c)
  | _, _, _ => none
theorem encL0_eq {vk : List VK} {rw : Nat → Option RowOb} : ∀ {ks : List CK} {cs : List C} {t e : E}, cs.all (C.rng vk) = true → encL0 vk rw ks cs t = some e → encL1 vk rw ks cs t = some e
  | [], [], _, _, _, h => h
  | k :: ks, c :: cs, t, e, hr, h => by
    simp only [List.all_cons, Bool.and_eq_true] at hr
    simp only [encL0, Option.bind_eq_some_iff] at h
    obtain ⟨e1, h1, h2⟩ := h
    simp only [encL1, Option.bind_eq_some_iff]
    exact ⟨e1, encL0_eq hr.2 h1, encC0_eq hr.1 h2⟩
def encL (vk : List VK) (rw : Nat → Option RowOb) (ks : List CK) (cs : List C) (t : E) : Option E := bif rngs vk cs vk 0 then encL0 vk rw ks cs t else none
theorem encL_some {vk : List VK} {rw : Nat → Option RowOb} {ks : List CK} {cs : List C} {t e : E} (h : encL vk rw ks cs t = some e) : encL1 vk rw ks cs t = some e := by
  unfold encL at h
  cases hr : rngs vk cs vk 0 with
  | false => rw [hr] at h; cases h
  | true => rw [hr] at h; exact encL0_eq (rngs_ok cs vk 0 rfl hr) h
def encV (vk : List VK) (vw : Vw) : Sh → V → E → Option E
  | .agg ks, .agg cs, t => encL vk vw.sw ks cs t
  | .one k, .one c, t => encC vk vw.sw k c t
  | .ptr ks, .one (.ptr b 0), t => if 0 < ks.length then (vw.row b 0 ks.length).bind fun cs => encL vk vw.sw ks cs t else none
  | .ptr ks, .one (.fp b 0), t => (vw.fb b).bind fun cs => encL vk vw.sw ks cs t
  | _, _, _ => none
def encA (vk : List VK) (vw : Vw) : List Sh → List V → Option E
  | [], [] => some .nil
  | s :: ss, v :: vs => (encA vk vw ss vs).bind (encV vk vw s v)
  | _, _ => none
/-- The rows and boxes that arguments name. -/
def slIds : List C → List Nat
  | [] => []
  | .sl id :: cs => id :: slIds cs
  | _ :: cs => slIds cs
def argRr (vw : Vw) : List Sh → List V → List Nat
  | .ptr ks :: ss, .one (.ptr b 0) :: vs => (match vw.row b 0 ks.length with | some cs => slIds cs | none => []) ++ argRr vw ss vs
  | .ptr _ :: ss, .one (.fp b 0) :: vs => (match vw.fb b with | some cs => slIds cs | none => []) ++ argRr vw ss vs
  | _ :: ss, v :: vs => slIds v.cells ++ argRr vw ss vs
  | _, _ => []
def argRd : List Sh → List V → List (Nat × Nat)
  | .ptr ks :: ss, .one (.ptr b 0) :: vs => rowRd b 0 ks.length ++ argRd ss vs
  | _ :: ss, _ :: vs => argRd ss vs
  | _, _ => []

def ckRel (w : World) (k : CK) (xs : List Dt) (v : Value) (r : List Dt) : Prop :=
  match k with
  | .int k => ∃ x, xs = .z x :: r ∧ v = .int k x ∧ inK k x = true
  | .bool => ∃ b, xs = .z (b2i b) :: r ∧ v = .bool b
  | .fn g => xs = r ∧ v = .func (.func g) #[] #[]
  | .lit k z => xs = r ∧ v = .int k z
  | .sl ks _ => ∃ L s, xs = .l L :: r ∧ v = s.v ∧ s.n = L.length ∧ RdRow w ks.length s (flat ks L) ∧ RowsIn ks L ∧ ∀ k, s.blk false = some k → k < w.heap.size
  | .nilf => xs = r ∧ v = .nilFunc
def cksRel (w : World) : List CK → List Dt → List Value → List Dt → Prop
  | [], xs, vs, r => xs = r ∧ vs = []
  | k :: ks, xs, vs, r => ∃ v us r', vs = v :: us ∧ ckRel w k xs v r' ∧ cksRel w ks r' us r
def shRel (w : World) : List Sh → List Dt → List Value → Prop
  | [], xs, vals => xs = [] ∧ vals = []
  | .one c :: ss, xs, vals => ∃ v vs r, vals = v :: vs ∧ ckRel w c xs v r ∧ shRel w ss r vs
  | .agg cs :: ss, xs, vals => ∃ us vs r, vals = .agg us.toArray :: vs ∧ cksRel w cs xs us r ∧ shRel w ss r vs
  | .ptr cs :: ss, xs, vals => ∃ kk us vs r, vals = .pointer (some ⟨kk, 0, none⟩) :: vs ∧ cksRel w cs xs us r ∧ kk < w.heap.size ∧ (∀ o u, us[o]? = some u → w.cell? ⟨kk, o, none⟩ = some u) ∧ shRel w ss r vs

/-- Arguments in their kinds' ranges. -/
def ckIn : CK → List Dt → List Dt → Prop
  | .int k, xs, r => ∃ x, xs = .z x :: r ∧ inK k x = true
  | .bool, xs, r => ∃ b, xs = .z (b2i b) :: r
  | .sl ks _, xs, r => ∃ L, xs = .l L :: r ∧ ∀ x ∈ L, rowIn ks x = true
  | _, xs, r => xs = r
def cksIn : List CK → List Dt → List Dt → Prop
  | [], xs, r => xs = r
  | k :: ks, xs, r => ∃ r', ckIn k xs r' ∧ cksIn ks r' r
def argIn : List Sh → List Dt → Prop
  | [], xs => xs = []
  | s :: ss, xs => ∃ r, cksIn s.cks xs r ∧ argIn ss r

/-- A row that the call has made. -/
structure OwnRow (w : World) (base : Nat) (ty : Nat) (ks : List CE) (s : SV) (L : List (List Int)) : Prop where
  n : s.n = L.length
  own : w.ownsRow base ty ks.length s.v s.n (flat ks L)
  rows : RowsIn ks L
  pos : 0 < ks.length
/-- Results: parts, and the rows among them. -/
def resCells (v0 : Nat) : Nat → Nat → List CK → List C
  | _, _, [] => []
  | n, id, .int k :: ks => .int k (.var (v0 + n)) :: resCells v0 (n + 1) id ks
  | n, id, .bool :: ks => .bool (.bvar (v0 + n)) :: resCells v0 (n + 1) id ks
  | n, id, .fn g :: ks => .fn g :: resCells v0 (n + 1) id ks
  | n, id, .lit _ _ :: ks => .undef :: resCells v0 (n + 1) id ks
  | n, id, .sl _ _ :: ks => .sl id :: resCells v0 (n + 1) (id + 1) ks
  | n, id, .nilf :: ks => .nilf :: resCells v0 (n + 1) id ks
def CK.isSl : CK → Bool
  | .sl _ _ => true
  | _ => false
def resParts (v0 : Nat) : Nat → Nat → List Sh → List (Bool × List C)
  | _, _, [] => []
  | n, id, .one k :: l => (false, resCells v0 n id [k]) :: resParts v0 (n + 1) (if k.isSl then id + 1 else id) l
  | n, id, .agg ks :: l => (true, resCells v0 n id ks) :: resParts v0 (n + ks.length) (id + (ks.filter CK.isSl).length) l
  | n, id, .ptr ks :: l => (true, [.undef]) :: resParts v0 (n + ks.length) id l
def resVof (res : List Sh) (tup : Bool) (v0 nid : Nat) : V :=
  if tup then .tup (resParts v0 0 nid res) else
  match resParts v0 0 nid res with
  | [(true, cs)] => .agg cs
  | [(false, [c])] => .one c
  | _ => .one .undef
def resV (s : Sm) (v0 nid : Nat) : V := resVof s.res s.tup v0 nid
/-- The rows of a result. -/
def resRows (v0 : Nat) : Nat → List CK → List RowOb
  | _, [] => []
  | n, .sl ks ty :: l => ⟨ks, ty, .lvar (v0 + n), true, .sl⟩ :: resRows v0 (n + 1) l
  | n, _ :: l => resRows v0 (n + 1) l

section
variable {ρ : Env} {j : J} {vk : List VK}
end

/-- Results in their kinds' ranges. -/
def resIn : List CK → List Dt → Prop
  | [], _ => True
  | .int k :: ks, .z x :: ds => inK k x = true ∧ resIn ks ds
  | .int _ :: _, _ => False
  | .sl ks0 _ :: ks, .l L :: ds => RowsIn ks0 L ∧ resIn ks ds
  | .sl _ _ :: _, _ => False
  | _ :: ks, _ :: ds => resIn ks ds
  | _ :: _, [] => False
/-- What a call leaves: the value whose parts the data X tell, and new rows. -/
structure RetOk (res : List Sh) (tup : Bool) (w w' : World) (X : List Dt) (v : Value) : Prop where
  ext : Ext w w'
  rng : resIn (res.flatMap (·.cks)) X
  svs : ∃ svs : List SV, svs.length = ((res.flatMap (·.cks)).filter CK.isSl).length ∧
        (∀ (ρ : Env) v0 nid (j : J), eqs ρ X v0 0 (res.flatMap (·.cks)) → (∀ (i : Nat) u, svs[i]? = some u → j.s (nid + i) = some u) → (resVof res tup v0 nid).den ρ j = some v) ∧
        (∀ (ρ : Env) v0, eqs ρ X v0 0 (res.flatMap (·.cks)) → ∀ (i : Nat) u r, svs[i]? = some u → (resRows v0 0 (res.flatMap (·.cks)))[i]? = some r → OwnRow w' w.heap.size r.ty r.ks u (r.l.R ρ)) ∧
        (∀ (i i' : Nat) u u' k, svs[i]? = some u → svs[i']? = some u' → u.v.ownBlock = some k → u'.v.ownBlock = some k → i = i')
structure SmOk (P : Program) (sp : Spec) (s : Sm) : Prop where
  calls : ∀ xs vals w, shRel w s.args xs vals → sp.pre s.key xs →
      (∃ v w', (callFunc s.f vals.toArray).run P w = .ok (.value v) w' ∧ RetOk s.res s.tup w w' (sp.F s.key xs) v) ∨ ((callFunc s.f vals.toArray).run P w = .ok (.enter s.f vals.toArray) w ∧ Calls P s.f vals.toArray w fun e w' => ∃ v, e = .returned v ∧ RetOk s.res s.tup w w' (sp.F s.key xs) v)
  rng : ∀ xs, argIn s.args xs → sp.pre s.key xs → ∀ (ρ : Env) v0, eqs ρ (sp.F s.key xs) v0 0 s.ks → (∀ (n : Nat) k, s.ks[n]? = some (.int k) → inK k (ρ.i (v0 + n)) = true) ∧ (∀ (n : Nat) ks ty, s.ks[n]? = some (.sl ks ty) → RowsIn ks (ρ.l (v0 + n)))

structure TIok (P : Program) (t : Nat) (i : TI) : Prop where
  agg : ∀ w, (isAgg t).run P w = .ok i.agg w
  size : ∀ w, (sizeOf t).run P w = .ok i.size w
  zero : ∃ z, (∀ w, (zeroValue t).run P w = .ok z w) ∧ ∀ (ρ : Env) j, denL ρ j i.zero = some z.cells.toList
  fieldAt : ∀ f off ft, i.fields[f]? = some (off, ft) → ∀ w (a : Addr), (Instr.fieldAt t (.pointer (some a)) f).run P w = .ok (.pointer (some (a.add off))) w
  field : ∀ f off ft, i.fields[f]? = some (off, ft) → ∀ w cs, (Instr.field t (.agg cs) f).run P w = (part ft cs off).run P w
  arr : ∀ n e, i.arr = some (n, e) → P.underlying t = some (.array n e)
  str : i.agg = true → i.arr = none → ∃ fs, P.underlying t = some (.struct fs) ∧ fs.toList.map (fun f => (f.offset, f.type)) = i.fields
  ik : ∀ k, i.ik = some k → P.underlying t = some (.int k)
  und : ∃ d, P.underlying t = some d
  eq : i.eqok = true → ∀ vs us, kindsV vs i.zero → kindsV us i.zero → ∀ w, (Op.equal t (.agg vs.toArray) (.agg us.toArray)).run P w = .ok (eqVs vs us) w
  grd : i.eqok = true → P.eqGuardType P.depth t = false
  isb : i.isb = true → P.underlying t = some .bool
  sle : ∀ e, i.sle = some e → P.underlying t = some (.slice e)
  fnt : i.fnt = true → ∀ f w, (Op.equal t (.func (.func f) #[] #[]) .nilFunc).run P w = .ok false w ∧ (Op.equal t .nilFunc .nilFunc).run P w = .ok true w
  mapt : ∀ k e, i.mapt = some (k, e) → P.underlying t = some (.map k e)
  key : i.keyok = true → ∀ vs, kindsV vs i.zero → ∀ b w, (Instr.checkKey b 10000 t (.agg vs.toArray)).run P w = .ok () w
  zsh : ∀ z, (∀ w, (zeroValue t).run P w = .ok z w) → (i.agg = true → z = .agg z.cells) ∧ (i.agg = false → z.cells = #[z])
  info : ∃ inf z, P.info? t = some inf ∧ inf.size = i.size ∧ inf.bytes = i.bytes ∧ inf.zero = some z ∧ z.cells.toList.length = i.size ∧ ∀ (ρ : Env) j, denL ρ j i.zero = some z.cells.toList

/-! ### The run of an operation -/
def findSm (vk : List VK) (vw : Vw) (f : Nat) (args : List V) : List Sm → Option (Sm × E)
  | [] => none
  | s :: l => if Nat.beq s.f f then (match encA vk vw s.args args with | some e => some (s, e) | none => findSm vk vw f args l) else findSm vk vw f args l
theorem findSm_ok {vk : List VK} {vw : Vw} {f : Nat} {args : List V} {s : Sm} {e : E} : ∀ {l : List Sm}, findSm vk vw f args l = some (s, e) → s ∈ l ∧ s.f = f ∧ encA vk vw s.args args = some e
  | x :: l, h => by
    simp only [findSm] at h
    split at h
    · rename_i hf
      split at h
      · rename_i e' he
        cases h
        exact ⟨List.mem_cons_self, Nat.eq_of_beq_eq_true hf, he⟩
      · have := findSm_ok h
        exact ⟨List.mem_cons_of_mem _ this.1, this.2⟩
    · have := findSm_ok h
      exact ⟨List.mem_cons_of_mem _ this.1, this.2⟩
def findLog (key : Nat) (e : E) : List (Nat × E × Nat) → Option Nat
  | [] => none
  | (m, x, v0) :: l => if Nat.beq m key && x.same e then some v0 else findLog key e l
theorem findLog_ok {key : Nat} {e : E} {v0 : Nat} : ∀ {l : List (Nat × E × Nat)}, findLog key e l = some v0 → (key, e, v0) ∈ l
  | (m, x, u) :: l, h => by
    simp only [findLog] at h
    split at h
    · rename_i hm
      simp only [Bool.and_eq_true] at hm
      cases h
      rw [Nat.eq_of_beq_eq_true hm.1, E.same_eq hm.2]
      exact List.mem_cons_self
    · exact List.mem_cons_of_mem _ (findLog_ok h)

def ckKind : CK → VK
  | .int k => .int k
  | .sl ks _ => .list ks
  | _ => .bool
def evL (ev : Operand → Option V) : List Operand → Option (List V)
  | [] => some []
  | x :: l => match ev x, evL ev l with
    | some v, some vs => some (v :: vs)
    | _, _ => none

/-- What a closure binds. -/
def capE (ev : Operand → Option V) : List Operand → Option (List (Option (Bool × Nat × Nat)))
  | [] => some []
  | x :: l => match ev x, capE ev l with
    | some (.one (.ptr b o)), some vs => some (some (true, b, o) :: vs)
    | some (.one (.fp b o)), some vs => some (some (false, b, o) :: vs)
    | some (.one .nilp), some vs => some (none :: vs)
    | _, _ => none
def callK (cx : Cx) (vw : Vw) (g : Nat) (args : List V) (kw : Kw) (k : Eff → Kw → Tr) : Tr :=
  match findSm kw.vk vw g args cx.sm with
  | none => .stuck (100000 + g)
  | some (s, e) =>
    match findLog s.key e kw.log with
    | some v0 => k { val := resV s v0 vw.nid, rd := argRd s.args args, rr := argRr vw s.args args, re := .mk (resRows v0 0 s.ks) } kw
    | none => .call s.key s.ks e kw.vk.length (k { val := resV s kw.vk.length vw.nid, rd := argRd s.args args, rr := argRr vw s.args args, re := .mk (resRows kw.vk.length 0 s.ks) } { kw with log := (s.key, e, kw.vk.length) :: kw.log, vk := kw.vk ++ s.ks.map ckKind })

def mmK (f : E → E → E) (k0 : IntKind) : E → List V → Option E
  | e, [] => some e
  | e, .one (.int k x) :: l => if kdSame k k0 then mmK f k0 (f e x) l else none
  | _, _ => none

def binK (cx : Cx) (op : BinOp) (xt : Nat) (x y : V) (kw : Kw) (k : Eff → Kw → Tr) : Tr :=
  match x, y with
  | .one (.int k1 a), .one (.int k2 b) =>
    match op with
    | .shl | .shr =>
      if k2.signed then decK (mkLt b (.lit 0)) (fun neg kw => if neg then .panic else k { val := .one (.int k1 (mkBin op k1 a b)) } kw) kw
      else if b.rng kw.vk k2 then k { val := .one (.int k1 (mkBin op k1 a b)) } kw else .stuck 11
    | _ =>
      if kdSame k1 k2 then
        match op with
        | .add | .sub | .mul | .and | .or | .xor | .andNot => k { val := .one (.int k1 (mkBin op k1 a b)) } kw
        | .quo | .rem => decK (mkEq b (.lit 0)) (fun z kw => if z then .panic else k { val := .one (.int k1 (mkBin op k1 a b)) } kw) kw
        | .eql => k { val := .one (.bool (mkEq a b)) } kw
        | .neq => k { val := .one (.bool (mkNot (mkEq a b))) } kw
        | .lss => k { val := .one (.bool (mkLt a b)) } kw
        | .leq => k { val := .one (.bool (mkNot (mkLt b a))) } kw
        | .gtr => k { val := .one (.bool (mkLt b a)) } kw
        | .geq => k { val := .one (.bool (mkNot (mkLt a b))) } kw
        | _ => .stuck 12
      else .stuck 13
  | .one (.bool a), .one (.bool b) =>
    match op with
    | .eql => match lookN xt cx.ty with
      | some i => if i.isb then k { val := .one (.bool (mkBeq a b)) } kw else .stuck 14
      | none => .stuck 14
    | .neq => match lookN xt cx.ty with
      | some i => if i.isb then k { val := .one (.bool (mkNot (mkBeq a b))) } kw else .stuck 14
      | none => .stuck 14
    | _ => .stuck 15
  | .one (.fn _), .one .nilf | .one .nilf, .one .nilf =>
    match lookN xt cx.ty with
    | some i => if i.fnt then
        match op, x with
        | .eql, .one .nilf => k { val := .one (.bool (.tt true)) } kw
        | .neq, .one .nilf => k { val := .one (.bool (.tt false)) } kw
        | .eql, _ => k { val := .one (.bool (.tt false)) } kw
        | .neq, _ => k { val := .one (.bool (.tt true)) } kw
        | _, _ => .stuck 51
      else .stuck 52
    | none => .stuck 52
  | .agg cs, .agg ds =>
    match lookN xt cx.ty, eqCells cs ds with
    | some i, some e =>
      if i.eqok && ((kindsC cs i.zero && rngs kw.vk cs kw.vk 0) && (kindsC ds i.zero && rngs kw.vk ds kw.vk 0)) then
        match op with
        | .eql => k { val := .one (.bool e) } kw
        | .neq => k { val := .one (.bool (mkNot e)) } kw
        | _ => .stuck 16
      else .stuck 17
    | _, _ => .stuck 18
  | _, _ => .stuck 19

/-- A number among those below n: the index's value by cases. -/
def pickK (e : E) (n : Nat) (k : Nat → Kw → Tr) : Nat → Kw → Tr
  | 0, _ => .panic
  | m + 1, kw => decK (mkEq e (.lit (n - (m + 1) : Nat))) (fun b kw => if b then k (n - (m + 1)) kw else pickK e n k m kw) kw

def partV (cx : Cx) (ft : Nat) (cs : List C) (off : Nat) : Option V :=
  match lookN ft cx.ty with
  | some i => if i.agg then (if off + i.size ≤ cs.length then some (.agg ((cs.drop off).take i.size)) else none) else (cs[off]?).map .one
  | none => none

def setRow : List C → Nat → List C → List C
  | cs, _, [] => cs
  | cs, off, v :: r => setRow (cs.set off v) (off + 1) r
def fillC (pl : Nat → Option (Nat × Nat)) : List C → List (Nat × V) → Option (List C)
  | cs, [] => some cs
  | cs, (i, v) :: l => match pl i with
    | some (off, size) => if v.flat && (Nat.beq v.cells.length size && decide (off + size ≤ cs.length)) then fillC pl (setRow cs off v.cells) l else none
    | none => none
def evP (ev : Operand → Option V) : List (Nat × Operand) → Option (List (Nat × V))
  | [] => some []
  | (i, x) :: l => match ev x, evP ev l with
    | some v, some vs => some ((i, v) :: vs)
    | _, _ => none
def placesOf (ty : List (Nat × TI)) : List (Nat × Nat) → Option (List (Nat × Nat))
  | [] => some []
  | (off, ft) :: l => match lookN ft ty, placesOf ty l with
    | some i, some r => some ((off, i.size) :: r)
    | _, _ => none
def buildV (cx : Cx) (t : Nat) (parts : List (Nat × V)) : Option V :=
  match lookN t cx.ty with
  | some i => match i.arr with
    | some (_, et) => match lookN et cx.ty with
      | some ie => (fillC (fun m => some (m * ie.size, ie.size)) i.zero parts).map .agg
      | none => none
    | none => if i.agg then (match placesOf cx.ty i.fields with
      | some pl => (fillC (fun m => pl[m]?) i.zero parts).map .agg
      | none => none) else none
  | none => none

/-! ### Places in arrays by number -/
/-- Are arrays in boxes gone into by number (and not by cases)? -/
def symOf (cx : Cx) : Bool := (lookN 999999 cx.hints).isSome
def E.isLit : E → Bool
  | .lit _ => true
  | _ => false
def inR (e : E) (n : Nat) : E := mkAnd (mkNot (mkLt e (.lit 0))) (mkLt e (.lit n))
/-- A column of n rows of sz cells. -/
def colE (k : IntKind) (sz c : Nat) : Nat → List C → Option E
  | 0, _ => some .nil
  | n + 1, cs => match cs[c]?, colE k sz c n (cs.drop sz) with
    | some (.int k' a), some t => if kdSame k k' then some (.cons a t) else none
    | _, _ => none
def colsE (e : E) (n sz : Nat) (cs : List C) : Nat → Nat → Option (List C)
  | _, 0 => some []
  | c, m + 1 => match cs[c]? with
    | some (.int k _) => match colE k sz c n cs, colsE e n sz cs (c + 1) m with
      | some l, some r => some (.int k (.nth e l) :: r)
      | _, _ => none
    | _ => none
def setI (c : E) : Nat → List C → List C → Option (List C)
  | off + 1, x :: xs, vc => (setI c off xs vc).map (x :: ·)
  | 0, xs, [] => some xs
  | 0, .int k a :: xs, .int k' x :: vc => if kdSame k k' then (setI c 0 xs vc).map (.int k (.ite c x a) :: ·) else none
  | _, _, _ => none
def iteR (e : E) (off sz : Nat) (vc : List C) : Nat → Nat → List C → Option (List C)
  | _, 0, cs => some cs
  | m, n + 1, cs => match setI (.eq e (.lit m)) off (cs.take sz) vc, iteR e off sz vc (m + 1) n (cs.drop sz) with
    | some a, some b => some (a ++ b)
    | _, _ => none
/-! ### Maps -/
/-- A map's entries; an iterator. -/
def Vw.mw (vw : Vw) (id : Nat) : Option (RowOb × Nat × Bool × Bool) := match vw.rw id with
  | some r => match r.kd with
    | .map nk ka va => some (r, nk, ka, va)
    | _ => none
  | none => none
def Vw.iw (vw : Vw) (id : Nat) : Option (RowOb × Nat × E) := match vw.rw id with
  | some r => match r.kd with
    | .it mid n => some (r, mid, n)
    | _ => none
  | none => none
def C.isZero : C → Bool
  | .int _ (.lit z) => zSame z 0
  | .bool (.tt b) => !b
  | _ => false
def aggIs (a : Bool) : V → Bool
  | .agg _ => a
  | .one _ => !a
  | _ => false
/-- A key's type, the elements' type and the map's own fit. -/
def keyFits (i : TI) (r : RowOb) (nk : Nat) (ka va : Bool) (ki ei : TI) (kv : V) (t : Nat) : Bool :=
  Nat.beq r.ty t && (aggIs ka kv && ((ki.agg == ka) && ((ei.agg == va) && (ei.zero.all C.isZero && (kindsC (kv.cells) ki.zero && ((bif ka then ki.keyok && ki.eqok else (match ki.ik, r.ks with | some kd, some kd' :: _ => kdSame kd kd' && Nat.beq nk 1 | _, _ => false)) && (Nat.beq nk kv.cells.length && (match ksOf ki.zero, ksOf ei.zero with
    | some a, some b => ceSame r.ks (a ++ b)
    | _, _ => false))))))))
def mapVal (ok va : Bool) (cs : List C) (has : E) : V :=
  if ok then .tup [(va, cs), (false, [.bool has])] else if va then .agg cs else match cs with
    | [c] => .one c
    | _ => .one .undef
/-- Is a number an index of a list? -/
def inB (e l : E) : E := mkAnd (mkNot (mkLt e (.lit 0))) (mkLt e (mkLen l))
def lenE (vk : List VK) (l : E) : E := match mkLen l with
  | .lit z => .lit z
  | e => if e.rng vk .i64 then e else .conv .i64 e
def catE (a b : E) : E := match b with
  | .lapp .lnil r => .lapp a r
  | b => match a with | .lnil => b | a => .lcat a b
def bigB : Int := 1073741824
def opK (cx : Cx) (vw : Vw) (op : Op) (kw : Kw) (k : Eff → Kw → Tr) : Tr :=
  match op with
  | .move x | .assign x => match vw.ev x with
    | some v => k { val := v } kw
    | none => .stuck 1
  | .alloc t => match lookN t cx.ty with
    | some i => k { val := .one (.ptr vw.nid 0), al := some (i.zero, t) } kw
    | none => .stuck 2
  | .box t x => match vw.ev x with
    | some v => if v.flat then k { val := .one (.ptr vw.nid 0), al := some (v.cells, t) } kw else .stuck 3
    | none => .stuck 3
  | .load t x => match vw.ev x, lookN t cx.ty with
    | some (.one (.ptr b o)), some i =>
      if i.agg then (match vw.row b o i.size with
        | some cs => k { val := .agg cs, rd := rowRd b o i.size } kw
        | none => .stuck 4)
      else (match vw.ld b o with
        | some c => k { val := .one c, rd := [(b, o)] } kw
        | none => .stuck 4)
    | some (.one (.fp b o)), some i =>
      if i.agg then (match (vw.fb b).bind fun cs => seg cs o i.size with
        | some cs => k { val := .agg cs } kw
        | none => .stuck 4)
      else (match (vw.fb b).bind (·[o]?) with
        | some c => k { val := .one c } kw
        | none => .stuck 4)
    | some (.one (.pe b o n sz e off)), some i => match vw.row b o (n * sz) with
      | some cs => if decide (off + i.size ≤ sz) then
          decK (inR e n) (fun ok kw => if ok then
            (match colsE e n sz cs off i.size with
            | some ds => if i.agg then k { val := .agg ds, rd := rowRd b o (n * sz) } kw else (match ds with
              | [d] => k { val := .one d, rd := rowRd b o (n * sz) } kw
              | _ => .stuck 160)
            | none => .stuck 161)
            else .stuck 162) kw
        else .stuck 163
      | none => .stuck 164
    | some (.one (.ep id esz e off)), some i => match vw.sw id with
      | some r => if Nat.beq r.ks.length esz && decide (off + i.size ≤ esz) then
          decK (inB e r.l) (fun b kw => if b then
            (if i.agg then k { val := .agg (rowCs r.l e off ((r.ks.drop off).take i.size)), rr := [id] } kw
            else match r.ks[off]? with
              | some ck => k { val := .one (rowC r.l e off ck), rr := [id] } kw
              | none => .stuck 53)
            else .stuck 54) kw
        else .stuck 55
      | none => .stuck 56
    | _, _ => .stuck 5
  | .store t x y => match vw.ev x, vw.ev y, lookN t cx.ty with
    | some (.one (.ptr b o)), some v, some i =>
      if v.flat && (Nat.beq v.cells.length i.size && v.cells.all C.solid) then k { val := .one .undef, wr := rowWr b o v.cells } kw else .stuck 6
    | some (.one (.pe b o n sz e off)), some v, some i => match vw.row b o (n * sz) with
      | some cs => if v.flat && (Nat.beq v.cells.length i.size && (decide (off + i.size ≤ sz) && Nat.beq cs.length (n * sz))) then
          decK (inR e n) (fun ok kw => if ok then
            (match iteR e off sz v.cells 0 n cs with
            | some ds => if ds.all C.solid && (cs.all C.solid && v.cells.all C.solid) then k { val := .one .undef, rd := rowRd b o (n * sz), wr := rowWr b o ds } kw else .stuck 165
            | none => .stuck 166)
            else .stuck 167) kw
        else .stuck 168
      | none => .stuck 169
    | some (.one (.ep id esz e off)), some v, some i => match vw.sw id with
      | some r => if r.own && (Nat.beq r.ks.length esz && (v.flat && (Nat.beq v.cells.length i.size && decide (off + i.size ≤ esz)))) then
          decK (inB e r.l) (fun b kw => if b then
            (match rowPut kw.vk r.l e off (r.ks.drop off) v.cells with
              | some l => k { val := .one .undef, rr := [id], re := .set id { r with l := l } } kw
              | none => .stuck 57)
            else .stuck 58) kw
        else .stuck 59
      | none => .stuck 62
    | _, _, _ => .stuck 7
  | .nilCheck x => match vw.ev x with
    | some (.one (.ptr b o)) => k { val := .one (.ptr b o) } kw
    | some (.one (.fp b o)) => k { val := .one (.fp b o) } kw
    | some (.one (.pe b o n sz e off)) => k { val := .one (.pe b o n sz e off) } kw
    | some (.one (.fn g)) => k { val := .one (.fn g) } kw
    | some (.one (.ep id esz e off)) => k { val := .one (.ep id esz e off) } kw
    | some (.one (.clo g fs ps)) => k { val := .one (.clo g fs ps) } kw
    | some (.one .nilp) => .panic
    | _ => .stuck 8
  | .binOp op xt x y _ => match vw.ev x, vw.ev y with
    | some v, some u => binK cx op xt v u kw k
    | _, _ => .stuck 9
  | .unOp op _ x => match op, vw.ev x with
    | .not, some (.one (.bool e)) => k { val := .one (.bool (mkNot e)) } kw
    | .neg, some (.one (.int kd e)) => k { val := .one (.int kd (mkBin .sub kd (.lit 0) e)) } kw
    | .xor, some (.one (.int kd e)) => k { val := .one (.int kd (mkBin .xor kd (.lit (if kd.signed then -1 else kd.max)) e)) } kw
    | _, _ => .stuck 10
  | .convert s d x => match vw.ev x, lookN d cx.ty, lookN s cx.ty with
    | some (.one (.int _ e)), some i, some _ => match i.ik with
      | some kd => k { val := .one (.int kd (if e.rng kw.vk kd then e else mkConv kd e)) } kw
      | none => .stuck 20
    | _, _, _ => .stuck 21
  | .fieldAddr s x f => match vw.ev x, lookN s cx.ty with
    | some (.one (.ptr b o)), some i => match i.fields[f]? with
      | some (off, _) => k { val := .one (.ptr b (o + off)) } kw
      | none => .stuck 22
    | some (.one (.fp b o)), some i => match i.fields[f]? with
      | some (off, _) => k { val := .one (.fp b (o + off)) } kw
      | none => .stuck 22
    | some (.one (.pe b o n sz e off0)), some i => match i.fields[f]? with
      | some (off, _) => k { val := .one (.pe b o n sz e (off0 + off)) } kw
      | none => .stuck 22
    | some (.one (.ep id esz e o)), some i => match i.fields[f]? with
      | some (off, _) => k { val := .one (.ep id esz e (o + off)) } kw
      | none => .stuck 22
    | _, _ => .stuck 23
  | .field s x f => match vw.ev x, lookN s cx.ty with
    | some (.agg cs), some i => match i.fields[f]? with
      | some (off, ft) => match partV cx ft cs off with
        | some v => k { val := v } kw
        | none => .stuck 24
      | none => .stuck 25
    | _, _ => .stuck 26
  | .indexAddr t x y => match vw.ev x, vw.ev y, lookN t cx.ty with
    | some (.one (.ptr b o)), some (.one (.int _ e)), some i => match i.arr with
      | some (n, et) => match lookN et cx.ty with
        | some ie => if symOf cx && !e.isLit then decK (inR e n) (fun ok kw => if ok then k { val := .one (.pe b o n ie.size e 0) } kw else .panic) kw else pickK e n (fun m kw => k { val := .one (.ptr b (o + m * ie.size)) } kw) n kw
        | none => .stuck 27
      | none => .stuck 28
    | some (.one (.ep id esz e0 o)), some (.one (.int _ e)), some i => match i.arr with
      | some (n, et) => match lookN et cx.ty with
        | some ie => pickK e n (fun m kw => k { val := .one (.ep id esz e0 (o + m * ie.size)) } kw) n kw
        | none => .stuck 27
      | none => .stuck 28
    | some (.one (.sl id)), some (.one (.int _ e)), some i => match i.sle with
      | some et => match lookN et cx.ty, vw.sw id with
        | some ie, some r => if Nat.beq r.ks.length ie.size then decK (inB e r.l) (fun b kw => if b then k { val := .one (.ep id ie.size e 0), rr := [id] } kw else .panic) kw else .stuck 63
        | _, _ => .stuck 64
      | none => .stuck 65
    | some (.one .nsl), some (.one (.int _ _)), some _ => .panic
    | _, _, _ => .stuck 29
  | .index t x y => match vw.ev x, vw.ev y, lookN t cx.ty with
    | some (.agg cs), some (.one (.int _ e)), some i => match i.arr with
      | some (n, et) => match lookN et cx.ty with
        | some ie => pickK e n (fun m kw => match partV cx et cs (m * ie.size) with
          | some v => k { val := v } kw
          | none => .stuck 30) n kw
        | none => .stuck 31
      | none => .stuck 32
    | _, _, _ => .stuck 33
  | .pick c x y => match vw.ev c, vw.ev x, vw.ev y with
    | some (.one (.bool e)), some u, some v => decK e (fun b kw => k { val := if b then u else v } kw) kw
    | _, _, _ => .stuck 42
  | .build t ps => match evP vw.ev ps.toList with
    | some parts => match buildV cx t parts with
      | some v => k { val := v } kw
      | none => .stuck 43
    | none => .stuck 44
  | .buildSlice t n ps => match evP vw.ev ps.toList, lookN t cx.ty with
    | some parts, some i => match i.sle with
      | some et => match lookN et cx.ty with
        | some ie => match ksOf ie.zero, fillC (fun m => some (m * ie.size, ie.size)) ((List.replicate n ie.zero).flatten) parts with
          | some ks, some cs => match rowsE kw.vk ks n cs with
            | some l => if decide (n * ie.size ≤ 16777216) && (decide (0 < ie.size) && Nat.beq ks.length ie.size) then k { val := .one (.sl vw.nid), re := .mk [⟨ks, et, l, true, .sl⟩] } kw else .stuck 66
            | none => .stuck 67
          | _, _ => .stuck 68
        | none => .stuck 69
      | none => .stuck 74
    | _, _ => .stuck 75
  | .makeSlice t x y => match vw.ev x, vw.ev y, lookN t cx.ty with
    | some (.one (.int _ e)), some (.one (.int _ e')), some i => match i.sle with
      | some et => match lookN et cx.ty with
        | some ie => match ksOf ie.zero with
          | some ks => match rowE kw.vk ks ie.zero with
            | some r => if e.same e' && (decide (0 < ie.size) && (Nat.beq ks.length ie.size && decide (ie.bytes ≤ 65536))) then
                decK (mkLt e (.lit 0)) (fun b kw => if b then .panic else decK (mkLt e (.lit bigB)) (fun b kw => if b then
                  k { val := .one (.sl vw.nid), re := .mk [⟨ks, et, .lrep e r, true, .sl⟩] } kw else .panic) kw) kw
              else .stuck 76
            | none => .stuck 77
          | none => .stuck 78
        | none => .stuck 79
      | none => .stuck 84
    | _, _, _ => .stuck 85
  | .slice t x lo hi none => match vw.ev x, lookN t cx.ty with
    | some (.one (.sl id)), some i => match i.sle, vw.sw id with
      | some et, some r => match lookN et cx.ty with
        | some ie => if Nat.beq r.ks.length ie.size && Nat.beq r.ty et then
            (match hi.map vw.ev, lo.map vw.ev with
            | none, none => k { val := .one (.sl id) } kw
            | none, some (some (.one (.int _ a))) => decK (mkLt a (.lit 0)) (fun b kw => if b then .panic else decK (mkLt (mkLen r.l) a) (fun b kw => if b then .panic else
                k { val := .one (.sl vw.nid), rr := [id], re := .view id { r with own := false } ⟨r.ks, et, .ldrop r.l a, false, .sl⟩ } kw) kw) kw
            | some (some (.one (.int _ c))), none => decK (mkLt c (.lit 0)) (fun b kw => if b then .panic else decK (mkLt (mkLen r.l) c) (fun b kw => if b then .panic else
                k { val := .one (.sl vw.nid), rr := [id], re := .view id { r with own := false } ⟨r.ks, et, .ltake r.l c, false, .sl⟩ } kw) kw) kw
            | some (some (.one (.int _ c))), some (some (.one (.int _ a))) => decK (mkLt c (.lit 0)) (fun b kw => if b then .panic else decK (mkLt (mkLen r.l) c) (fun b kw => if b then .panic else
                decK (mkLt a (.lit 0)) (fun b kw => if b then .panic else decK (mkLt c a) (fun b kw => if b then .panic else
                k { val := .one (.sl vw.nid), rr := [id], re := .view id { r with own := false } ⟨r.ks, et, .ldrop (.ltake r.l c) a, false, .sl⟩ } kw) kw) kw) kw) kw
            | _, _ => .stuck 86)
          else .stuck 87
        | none => .stuck 88
      | _, _ => .stuck 89
    | _, _ => .stuck 90
  | .makeMap t none => match lookN t cx.ty with
    | some i => match i.mapt with
      | some (kt, et) => match lookN kt cx.ty, lookN et cx.ty with
        | some ki, some ei => match ksOf ki.zero, ksOf ei.zero with
          | some kk, some ek => if decide (0 < kk.length) then k { val := .one (.mp vw.nid), re := .mk [⟨kk ++ ek, t, .lnil, true, .map kk.length ki.agg ei.agg⟩] } kw else .stuck 131
          | _, _ => .stuck 132
        | _, _ => .stuck 133
      | none => .stuck 134
    | none => .stuck 135
  | .lookup t x y ok => match vw.ev x, vw.ev y, lookN t cx.ty with
    | some (.one (.mp id)), some kv, some i => match i.mapt, vw.mw id with
      | some (kt, et), some (r, nk, ka, va) => match lookN kt cx.ty, lookN et cx.ty, rowE kw.vk (r.ks.take nk) kv.cells with
        | some ki, some ei, some key => if keyFits i r nk ka va ki ei kv t then
            k { val := mapVal ok va (rowCs r.l (mkMix r.l key) nk (r.ks.drop nk)) (mkLt (mkMix r.l key) (mkLen r.l)), rr := [id] } kw else .stuck 136
        | _, _, _ => .stuck 137
      | _, _ => .stuck 138
    | _, _, _ => .stuck 139
  | .mapUpdate t x y z => match vw.ev x, vw.ev y, vw.ev z, lookN t cx.ty with
    | some (.one (.mp id)), some kv, some zv, some i => match i.mapt, vw.mw id with
      | some (kt, et), some (r, nk, ka, va) => match lookN kt cx.ty, lookN et cx.ty, rowE kw.vk (r.ks.take nk) kv.cells with
        | some ki, some ei, some key => match rowE kw.vk r.ks (kv.cells ++ zv.cells) with
          | some row => if keyFits i r nk ka va ki ei kv t && aggIs va zv then
            decK (mkLt (mkMix r.l key) (mkLen r.l)) (fun b kw => if b then
              k { val := .one .undef, rr := [id], re := .set id { r with l := .lput r.l (mkMix r.l key) row } } kw
            else decK (mkLt (mkLen r.l) (.lit bigB)) (fun b kw => if b then k { val := .one .undef, rr := [id], re := .set id { r with l := .lapp r.l row } } kw else .stuck 130) kw) kw else .stuck 140
          | none => .stuck 141
        | _, _, _ => .stuck 142
      | _, _ => .stuck 143
    | _, _, _, _ => .stuck 144
  | .range t x => match vw.ev x, lookN t cx.ty with
    | some (.one (.mp id)), some i => match i.mapt, vw.mw id with
      | some _, some (r, _, _, _) => if Nat.beq id vw.nid then .stuck 152 else k { val := .one (.itp vw.nid id), rr := [id], re := .mk [⟨[some .i64], t, .lnil, true, .it id (mkLen r.l)⟩] } kw
      | _, _ => .stuck 145
    | _, _ => .stuck 146
  | .entry x => match vw.ev x with
    | some (.one (.itp id mid)) => match vw.iw id with
      | some (q, mid', n) => if Nat.beq mid' mid then match q.l, vw.mw mid with
        | .lapp _ (.cons iv .nil), some (r, nk, ka, va) => if n.same (mkLen r.l) && (decide (nk ≤ r.ks.length) && ((ka || Nat.beq nk 1) && (va || Nat.beq (r.ks.drop nk).length 1))) then
            k { val := .tup [(ka, rowCs r.l iv 0 (r.ks.take nk)), (va, rowCs r.l iv nk (r.ks.drop nk))], rr := [id, mid] } kw else .stuck 147
        | _, _ => .stuck 148
        else .stuck 151
      | none => .stuck 149
    | _ => .stuck 150
  | .makeFunc fn fs ps => match fn, capE vw.ev fs.toList, capE vw.ev ps.toList with
    | .func g, some a, some b => k { val := .one (.clo g a b) } kw
    | _, _, _ => .stuck 119
  | .extract x n => match vw.ev x with
    | some (.tup vs) => match vs[n]? with
      | some (true, cs) => k { val := .agg cs } kw
      | some (false, [c]) => k { val := .one c } kw
      | _ => .stuck 34
    | _ => .stuck 35
  | .call c => match c.callee with
    | .value f => match vw.ev f, evL vw.ev c.args.toList with
      | some (.one (.fn g)), some args => callK cx vw g args kw k
      | _, _ => .stuck 36
    | .builtin .len => match evL vw.ev c.args.toList, c.argTypes.toList with
      | some [.one (.sl id)], [t] => match lookN t cx.ty, vw.sw id with
        | some i, some r => if i.sle.isSome then k { val := .one (.int .i64 (lenE kw.vk r.l)), rr := [id] } kw else .stuck 91
        | _, _ => .stuck 92
      | some [.one .nsl], [t] => match lookN t cx.ty with
        | some i => if i.sle.isSome then k { val := .one (.int .i64 (.lit 0)) } kw else .stuck 91
        | none => .stuck 92
      | _, _ => .stuck 93
    | .builtin .append => match evL vw.ev c.args.toList, c.argTypes.toList with
      | some [.one s, .one (.sl id)], [t, t'] => match lookN t cx.ty, vw.sw id with
        | some i, some r => match i.sle with
          | some et => match lookN et cx.ty with
            | some ie => if Nat.beq t t' && (Nat.beq r.ty et && (Nat.beq r.ks.length ie.size && (decide (0 < ie.size) && decide (ie.bytes ≤ 65536)))) then
                (match s with
                | .nsl => decK (mkLt (mkLen r.l) (.lit bigB)) (fun b kw => if b then k { val := .one (.sl vw.nid), rr := [id], re := .mk [⟨r.ks, et, r.l, true, .sl⟩] } kw else .panic) kw
                | .sl old => match vw.sw old with
                  | some q => if q.own && (Nat.beq q.ty et && (ceSame q.ks r.ks && !Nat.beq old id)) then
                      decK (mkAnd (mkLt (mkLen q.l) (.lit bigB)) (mkLt (mkLen r.l) (.lit bigB))) (fun b kw => if b then k { val := .one (.sl vw.nid), rr := [old, id], re := .app old ⟨r.ks, et, catE q.l r.l, true, .sl⟩ } kw else .panic) kw
                    else .stuck 94
                  | none => .stuck 95
                | _ => .stuck 96)
              else .stuck 97
            | none => .stuck 98
          | none => .stuck 99
        | _, _ => .stuck 101
      | _, _ => .stuck 102
    | .builtin .min => match evL vw.ev c.args.toList with
      | some (.one (.int k0 e) :: l) => match mmK mkMin k0 e l with
        | some e' => k { val := .one (.int k0 e') } kw
        | none => .stuck 37
      | _ => .stuck 38
    | .builtin .max => match evL vw.ev c.args.toList with
      | some (.one (.int k0 e) :: l) => match mmK mkMax k0 e l with
        | some e' => k { val := .one (.int k0 e') } kw
        | none => .stuck 39
      | _ => .stuck 40
    | _ => .stuck 41
  | _ => .stuck 50
end Go.Proofs.Ytgfghplnankgnaa


/- The model's operation does what the symbolic run says. Nothing of the program is in here. -/
set_option linter.unusedVariables false
set_option linter.unusedSimpArgs false
namespace Go.Proofs.Ytgfghplnankgnaa
open Go.RowKit

def RdOk (ρ : Env) (j : J) (w : World) (ld : Nat → Nat → Option C) (rd : List (Nat × Nat)) : Prop :=
  ∀ p ∈ rd, ∀ c, ld p.1 p.2 = some c → ∃ k v, j.b p.1 = some k ∧ c.den ρ j = some v ∧ w.cell? ⟨k, p.2, none⟩ = some v
def WrOk (j : J) (w : World) (wr : List (Nat × Nat × C)) : Prop :=
  ∀ p ∈ wr, ∃ k u, j.b p.1 = some k ∧ w.cell? ⟨k, p.2.1, none⟩ = some u ∧ w.frozen? ⟨k, p.2.1, none⟩ = false
def Writes (ρ : Env) (j : J) : List (Nat × Nat × C) → World → World → Prop
  | [], w, w' => w' = w
  | (b, o, c) :: l, w, w' => ∃ k v, j.b b = some k ∧ c.den ρ j = some v ∧ Writes ρ j l (w.setCell ⟨k, o, none⟩ v) w'
/-! ### Rows in memory -/
theorem rowV_length : ∀ {ks : List CE} {r : List Int}, rowIn ks r = true → (rowV ks r).length = ks.length
  | [], [], _ => rfl
  | k :: ks, x :: xs, h => by
    simp only [rowIn, Bool.and_eq_true] at h
    simp [rowV, rowV_length h.2]
theorem rowV_get : ∀ {ks : List CE} {r : List Int} {c : Nat} {k : CE}, rowIn ks r = true → ks[c]? = some k → (rowV ks r)[c]? = some (cellV k (r.getD c 0))
  | k0 :: ks, x :: xs, c, k, h, hc => by
    simp only [rowIn, Bool.and_eq_true] at h
    cases c with
    | zero => simp at hc; subst hc; simp [rowV]
    | succ c => simpa [rowV] using rowV_get h.2 (by simpa using hc)
  | [], _, c, k, _, hc => by simp at hc
theorem rowV_set : ∀ {ks : List CE} {r : List Int} {c : Nat} {k : CE}, rowIn ks r = true → ks[c]? = some k → ∀ x, (rowV ks r).set c (cellV k x) = rowV ks (r.set c x)
  | k0 :: ks, y :: ys, c, k, h, hc, x => by
    simp only [rowIn, Bool.and_eq_true] at h
    cases c with
    | zero => simp at hc; subst hc; simp [rowV]
    | succ c => simp [rowV, rowV_set h.2 (by simpa using hc) x]
  | [], _, c, k, _, hc, _ => by simp at hc
theorem flat_cons (ks : List CE) (r : List Int) (L : List (List Int)) : flat ks (r :: L) = rowV ks r ++ flat ks L := by simp [flat]
theorem flat_append (ks : List CE) (L M : List (List Int)) : flat ks (L ++ M) = flat ks L ++ flat ks M := by simp [flat]
theorem flat_length {ks : List CE} : ∀ {L : List (List Int)}, (∀ r ∈ L, rowIn ks r = true) → (flat ks L).length = L.length * ks.length
  | [], _ => by simp [flat]
  | r :: L, h => by
    rw [flat_cons, List.length_append, rowV_length (h r List.mem_cons_self), flat_length (fun x hx => h x (List.mem_cons_of_mem _ hx)), List.length_cons, Nat.succ_mul, Nat.add_comm]
theorem flat_get {ks : List CE} {c : Nat} {k : CE} (hc : ks[c]? = some k) : ∀ {L : List (List Int)} {i : Nat}, (∀ r ∈ L, rowIn ks r = true) → i < L.length → (flat ks L)[i * ks.length + c]? = some (cellV k ((L.getD i []).getD c 0))
  | [], i, _, hi => absurd hi (by simp)
  | r :: L, i, h, hi => by
    have hcl : c < ks.length := by
      rcases Nat.lt_or_ge c ks.length with h1 | h1
      · exact h1
      · rw [List.getElem?_eq_none h1] at hc; cases hc
    have hl := rowV_length (h r List.mem_cons_self)
    cases i with
    | zero =>
      rw [flat_cons, Nat.zero_mul, Nat.zero_add, List.getElem?_append_left (by omega), rowV_get (h r List.mem_cons_self) hc]
      rfl
    | succ i =>
      rw [flat_cons, List.getElem?_append_right (by rw [hl, Nat.succ_mul]; omega), hl, show (i + 1) * ks.length + c - ks.length = i * ks.length + c by rw [Nat.succ_mul]; omega]
      rw [flat_get hc (fun x hx => h x (List.mem_cons_of_mem _ hx)) (by simpa using hi)]
      rfl
theorem flat_take {ks : List CE} : ∀ {L : List (List Int)} (n : Nat), (∀ r ∈ L, rowIn ks r = true) → (flat ks L).take (n * ks.length) = flat ks (L.take n)
  | [], n, _ => by simp [flat]
  | r :: L, n, h => by
    have hl := rowV_length (h r List.mem_cons_self)
    cases n with
    | zero => simp [flat]
    | succ n =>
      rw [flat_cons, List.take_succ_cons, flat_cons, ← flat_take n (fun x hx => h x (List.mem_cons_of_mem _ hx)), List.take_append, hl, Nat.succ_mul, List.take_of_length_le (by omega)]
      congr 2
      omega
theorem flat_drop {ks : List CE} : ∀ {L : List (List Int)} (n : Nat), (∀ r ∈ L, rowIn ks r = true) → (flat ks L).drop (n * ks.length) = flat ks (L.drop n)
  | [], n, _ => by simp [flat]
  | r :: L, n, h => by
    have hl := rowV_length (h r List.mem_cons_self)
    cases n with
    | zero => simp [flat]
    | succ n =>
      rw [flat_cons, List.drop_succ_cons, ← flat_drop n (fun x hx => h x (List.mem_cons_of_mem _ hx)), List.drop_append, hl, Nat.succ_mul, List.drop_of_length_le (by omega), List.nil_append]
      congr 1
      omega
theorem flat_set {ks : List CE} {c : Nat} {k : CE} (hc : ks[c]? = some k) (x : Int) : ∀ {L : List (List Int)} {i : Nat}, (∀ r ∈ L, rowIn ks r = true) → i < L.length → (flat ks L).set (i * ks.length + c) (cellV k x) = flat ks (L.set i ((L.getD i []).set c x))
  | [], i, _, hi => absurd hi (by simp)
  | r :: L, i, h, hi => by
    have hcl : c < ks.length := by
      rcases Nat.lt_or_ge c ks.length with h1 | h1
      · exact h1
      · rw [List.getElem?_eq_none h1] at hc; cases hc
    have hl := rowV_length (h r List.mem_cons_self)
    cases i with
    | zero =>
      rw [flat_cons, Nat.zero_mul, Nat.zero_add, List.set_append_left _ _ (by omega), rowV_set (h r List.mem_cons_self) hc]
      rfl
    | succ i =>
      rw [flat_cons, List.set_append_right _ _ (by rw [hl, Nat.succ_mul]; omega), hl, show (i + 1) * ks.length + c - ks.length = i * ks.length + c by rw [Nat.succ_mul]; omega]
      rw [flat_set hc x (fun y hy => h y (List.mem_cons_of_mem _ hy)) (by simpa using hi)]
      show _ = flat ks (r :: L.set i _)
      rw [flat_cons]
      rfl
theorem flat_one {ks : List CE} : ∀ {L : List (List Int)}, ∀ u ∈ flat ks L, u.oneCell' = true := by
  have row : ∀ (ks : List CE) (r : List Int), ∀ u ∈ rowV ks r, u.oneCell' = true := by
    intro ks
    induction ks with
    | nil => intro r u hu; simp [rowV] at hu
    | cons k ks ih =>
      intro r u hu
      cases r with
      | nil => simp [rowV] at hu
      | cons x xs =>
        simp only [rowV, List.mem_cons] at hu
        rcases hu with rfl | hu
        · cases k <;> rfl
        · exact ih xs u hu
  intro L u hu
  simp only [flat, List.mem_flatMap] at hu
  obtain ⟨r, _, hu⟩ := hu
  exact row ks r u hu

/-- A row as it lies in memory. -/
structure SlOk (ρ : Env) (base : Nat) (w : World) (s : SV) (r : RowOb) : Prop where
  n : s.n = (r.l.R ρ).length
  rows : RowsIn r.ks (r.l.R ρ)
  pos : 0 < r.ks.length
  lt : ∀ k, s.blk r.own = some k → k < w.heap.size
  own : r.own = true → w.ownsRow base r.ty r.ks.length s.v s.n (flat r.ks (r.l.R ρ))
  rd : RdRow w r.ks.length s (flat r.ks (r.l.R ρ))
/-! ### Maps and iterators in memory -/
def cellsV (agg : Bool) (vs : List Value) : Value := if agg then .agg vs.toArray else vs.headD undef
def entV (ks : List CE) (nk : Nat) (ka va : Bool) (i : Nat) (r : List Int) : MapEntry := ⟨cellsV ka ((rowV ks r).take nk), cellsV va ((rowV ks r).drop nk), i⟩
def entsV (ks : List CE) (nk : Nat) (ka va : Bool) : Nat → List (List Int) → List MapEntry
  | _, [] => []
  | i, r :: L => entV ks nk ka va i r :: entsV ks nk ka va (i + 1) L
def idxs (L : List (List Int)) : List Nat := L.map fun r => (r.getD 0 0).toNat
/-- What an object holds. -/
def obOf (ρ : Env) (s : SV) (r : RowOb) (o : Obj) : Prop :=
  match r.kd with
  | .sl => False
  | .map nk ka va => o = .map (entsV r.ks nk ka va 0 (r.l.R ρ)).toArray (r.l.R ρ).length
  | .it _ n => r.ks = [some .i64] ∧ o = .mapIter (some s.n) (n.I ρ).toNat (idxs (r.l.R ρ)).toArray (n.I ρ).toNat ∧ (r.l.R ρ).Nodup ∧ ∀ x ∈ r.l.R ρ, 0 ≤ x.getD 0 0 ∧ x.getD 0 0 < n.I ρ
structure HdOk (ρ : Env) (base : Nat) (w : World) (s : SV) (r : RowOb) : Prop where
  own : r.own = true
  rows : RowsIn r.ks (r.l.R ρ)
  c : s.c = 1
  at' : ∃ g o, s.a = some ⟨g, 0, none⟩ ∧ base ≤ g ∧ w.heap[g]? = some o ∧ obOf ρ s r o
/-- A row, a map or an iterator as it lies in memory. -/
def RowOk (ρ : Env) (base : Nat) (w : World) (s : SV) (r : RowOb) : Prop := (r.kd = .sl → SlOk ρ base w s r) ∧ (r.kd ≠ .sl → HdOk ρ base w s r)
theorem SlOk.row {ρ : Env} {base : Nat} {w : World} {s : SV} {r : RowOb} (h : SlOk ρ base w s r) (hk : r.kd = .sl) : RowOk ρ base w s r := ⟨fun _ => h, fun hn => absurd hk hn⟩
theorem HdOk.row {ρ : Env} {base : Nat} {w : World} {s : SV} {r : RowOb} (h : HdOk ρ base w s r) (hk : r.kd ≠ .sl) : RowOk ρ base w s r := ⟨fun e => absurd e hk, fun _ => h⟩
theorem RowOk.cases {ρ : Env} {base : Nat} {w : World} {s : SV} {r : RowOb} (h : RowOk ρ base w s r) : (r.kd = .sl ∧ SlOk ρ base w s r) ∨ (r.kd ≠ .sl ∧ HdOk ρ base w s r) := by
  by_cases hk : r.kd = .sl
  · exact .inl ⟨hk, h.1 hk⟩
  · exact .inr ⟨hk, h.2 hk⟩
theorem RowOk.rows {ρ : Env} {base : Nat} {w : World} {s : SV} {r : RowOb} (h : RowOk ρ base w s r) : RowsIn r.ks (r.l.R ρ) := by
  rcases h.cases with ⟨_, h⟩ | ⟨_, h⟩ <;> exact h.rows
theorem HdOk.blk {ρ : Env} {base : Nat} {w : World} {s : SV} {r : RowOb} (h : HdOk ρ base w s r) {o : Bool} {k : Nat} (hk : s.blk o = some k) : ∃ ob, s.a = some ⟨k, 0, none⟩ ∧ base ≤ k ∧ w.heap[k]? = some ob ∧ obOf ρ s r ob ∧ k < w.heap.size := by
  obtain ⟨g, ob, h1, h2, h3, h4⟩ := h.at'
  have e := blk_some hk
  simp only [SV.v, h1, Value.ownBlock, Option.some.injEq] at e
  subst e
  exact ⟨ob, h1, h2, h3, h4, (Array.getElem?_eq_some_iff.1 h3).1⟩
theorem HdOk.blkAt {ρ : Env} {base : Nat} {w : World} {s : SV} {r : RowOb} (h : HdOk ρ base w s r) {g : Nat} (hg : s.a = some ⟨g, 0, none⟩) (o : Bool) : s.blk o = some g := by
  unfold SV.blk
  rw [if_pos (by rw [h.c]; cases o <;> rfl)]
  simp [SV.v, hg, Value.ownBlock]
theorem RowOk.lt {ρ : Env} {base : Nat} {w : World} {s : SV} {r : RowOb} (h : RowOk ρ base w s r) : ∀ k, s.blk r.own = some k → k < w.heap.size := by
  intro k hk
  rcases h.cases with ⟨_, h⟩ | ⟨_, h⟩
  · exact h.lt k hk
  · obtain ⟨_, _, _, _, _, h5⟩ := h.blk hk
    exact h5
theorem rd_of_own {w : World} {base ty esz : Nat} {s : SV} {xs : List Value} (h : w.ownsRow base ty esz s.v s.n xs) : RdRow w esz s xs := by
  obtain ⟨hl, h⟩ := h
  rcases h with ⟨hv, hn⟩ | ⟨g, cap, cur, hv, hb, hg, hn, hm, hs, ht⟩
  · obtain ⟨a, n, c⟩ := s
    simp only [SV.v, Value.slice.injEq] at hv
    obtain ⟨rfl, rfl, rfl⟩ := hv
    exact ⟨hl, Nat.le_refl _, by simp [maxLen], fun _ => ⟨rfl, rfl⟩, fun a ha => by cases ha⟩
  · obtain ⟨a, n, c⟩ := s
    simp only [SV.v, Value.slice.injEq] at hv
    obtain ⟨rfl, -, rfl⟩ := hv
    refine ⟨hl, hn, hm, fun h => (by cases h), fun a ha i u hu => ?_⟩
    cases ha
    have : (⟨g, 0, none⟩ : Addr).add i = ⟨g, i, none⟩ := by unfold Addr.add; split <;> simp_all
    rw [this, cell_of_row w g i cur ty (0, 0) hg, ← Array.getElem?_toList]
    rw [← ht] at hu
    simp only at hl hu
    rw [List.getElem?_take] at hu
    split at hu
    · exact hu
    · cases hu
theorem own_lt {w : World} {base ty esz : Nat} {s : SV} {n : Nat} {xs : List Value} (h : w.ownsRow base ty esz s.v n xs) : ∀ k, s.v.ownBlock = some k → k < w.heap.size ∧ base ≤ k := by
  intro k hk
  rcases h.2 with ⟨hv, hn⟩ | ⟨g, cap, cur, hv, hb, hg, _⟩
  · rw [hv] at hk; cases hk
  · rw [hv] at hk
    cases hk
    refine ⟨?_, hb⟩
    rcases Nat.lt_or_ge g w.heap.size with h1 | h1
    · exact h1
    · rw [Array.getElem?_eq_none h1] at hg; cases hg
theorem SlOk.mk_own {ρ : Env} {base : Nat} {w : World} {s : SV} {r : RowOb} (h1 : s.n = (r.l.R ρ).length) (h2 : RowsIn r.ks (r.l.R ρ)) (h3 : 0 < r.ks.length) (h4 : w.ownsRow base r.ty r.ks.length s.v s.n (flat r.ks (r.l.R ρ))) : SlOk ρ base w s r :=
  ⟨h1, h2, h3, fun k hk => (own_lt h4 k (blk_some hk)).1, fun _ => h4, rd_of_own h4⟩

theorem RowOk.owned {ρ : Env} {base : Nat} {w : World} {s : SV} {r : RowOb} (h : RowOk ρ base w s r) (ho : r.own = true) : ∀ k, s.v.ownBlock = some k → k < w.heap.size ∧ base ≤ k := by
  intro k hk
  rcases h.cases with ⟨_, h⟩ | ⟨_, h⟩
  · exact own_lt (h.own ho) k hk
  · obtain ⟨g, ob, h1, h2, h3, h4⟩ := h.at'
    simp only [SV.v, h1, Value.ownBlock, Option.some.injEq] at hk
    subst hk
    exact ⟨(Array.getElem?_eq_some_iff.1 h3).1, h2⟩
theorem RowOk.mk_own {ρ : Env} {base : Nat} {w : World} {s : SV} {r : RowOb} (hk : r.kd = .sl) (h1 : s.n = (r.l.R ρ).length) (h2 : RowsIn r.ks (r.l.R ρ)) (h3 : 0 < r.ks.length) (h4 : w.ownsRow base r.ty r.ks.length s.v s.n (flat r.ks (r.l.R ρ))) : RowOk ρ base w s r := (SlOk.mk_own h1 h2 h3 h4).row hk
def RrOk (ρ : Env) (base : Nat) (j : J) (w : World) (rw : Nat → Option RowOb) (rr : List Nat) : Prop :=
  ∀ id ∈ rr, ∀ r, rw id = some r → ∃ s, j.s id = some s ∧ RowOk ρ base w s r
theorem RrOk.sl {ρ : Env} {base : Nat} {j : J} {w : World} {vw : Vw} {rr : List Nat} (h : RrOk ρ base j w vw.rw rr) (id : Nat) (hid : id ∈ rr) (r : RowOb) (hr : vw.sw id = some r) : ∃ s, j.s id = some s ∧ SlOk ρ base w s r := by
  obtain ⟨h1, h2⟩ := Vw.sw_some hr
  obtain ⟨s, h3, h4⟩ := h id hid r h1
  exact ⟨s, h3, h4.1 h2⟩
def FbOk (ρ : Env) (j : J) (w : World) (fb : Nat → Option (List C)) : Prop :=
  ∀ b cs, fb b = some cs → ∃ k vs, j.f b = some k ∧ k < w.heap.size ∧ denL ρ j cs = some vs ∧ ∀ o v, vs[o]? = some v → w.cell? ⟨k, o, none⟩ = some v

def J.putS (j : J) (id : Nat) (s : SV) : J := { j with s := fun b => if b = id then some s else j.s b }
def J.putL (j : J) (nid : Nat) (l : List SV) : J := { j with s := fun b => if nid ≤ b then (match l[b - nid]? with | some u => some u | none => j.s b) else j.s b }
def Does (ρ : Env) (base nid : Nat) (eff : Eff) (j : J) (w : World) (j' : J) (w' : World) : Prop :=
  match eff.al with
  | some (cs, ty) => ∃ vs, denL ρ j cs = some vs ∧ w' = w.alloc (.cells vs.toArray ty) ∧ j' = { j with b := fun b => if b = nid then some w.heap.size else j.b b }
  | none => match eff.re with
    | .none => j' = j ∧ ∃ w1, Ext w w1 ∧ Writes ρ j eff.wr w1 w'
    | .set id r => j' = j ∧ ∃ s, j.s id = some s ∧ w.grownBy w' s.v.ownBlock ∧ RowOk ρ base w' s r
    | .mk rs => Ext w w' ∧ ∃ svs : List SV, svs.length = rs.length ∧ (∀ (i : Nat) u r, svs[i]? = some u → rs[i]? = some r → RowOk ρ w.heap.size w' u r ∧ r.own = true) ∧
        (∀ (i i' : Nat) u u' k, svs[i]? = some u → svs[i']? = some u' → u.v.ownBlock = some k → u'.v.ownBlock = some k → i = i') ∧ j' = j.putL nid svs
    | .app old r => ∃ s s', j.s old = some s ∧ w.grownBy w' s.v.ownBlock ∧ RowOk ρ base w' s' r ∧ (s'.v.ownBlock = s.v.ownBlock ∨ s'.v.ownBlock = some w.heap.size) ∧ j' = j.putS nid s'
    | .view old q r => w' = w ∧ ∃ s s', j.s old = some s ∧ RowOk ρ base w s q ∧ RowOk ρ base w s' r ∧ (∀ k, s'.blk false = some k → s.blk false = some k) ∧ j' = j.putS nid s'

/-- The operation, in whatever state that agrees on what it looks at, does what eff says. -/
def OpOk (P : Program) (ρ : Env) (base : Nat) (vw : Vw) (o : Oper) (eff : Eff) : Prop :=
  ∀ (j : J) (a : Act) (w : World), base ≤ w.heap.size → (∀ x ∈ o.op.operands.toList, ∀ v, vw.ev x = some v → v.den ρ j = some (a.eval x)) → RdOk ρ j w vw.ld eff.rd → WrOk j w eff.wr → RrOk ρ base j w vw.rw eff.rr → FbOk ρ j w vw.fb →
    ∀ (K : Act → World → Prop) (Q : Exit → Act → World → Prop), (∀ v j' w', eff.val.den ρ j' = some v → Does ρ base vw.nid eff j w j' w' → K (a.put o.dst v) w') → o.wp P a w K Q

theorem wp_val {P : Program} {o : Oper} {a : Act} {w w' : World} {v : Value} {K : Act → World → Prop} {Q : Exit → Act → World → Prop} (h : (execOp a.eval o).run P w = .ok (.value v) w') (hk : K (a.put o.dst v) w') : o.wp P a w K Q := by
  unfold Oper.wp; rw [h]; exact hk
theorem wp_skp {P : Program} {o : Oper} {a : Act} {w w' : World} {K : Act → World → Prop} {Q : Exit → Act → World → Prop} (h : (execOp a.eval o).run P w = .ok .skip w') (hk : K (a.put o.dst undef) w') : o.wp P a w K Q := by
  unfold Oper.wp; rw [h]; exact hk

section
variable {P : Program} {ρ : Env} {base : Nat} {vw : Vw} {ld : Nat → Nat → Option C} {o : Oper}

/-- An operation that only reckons: it yields a value that its operands' values give. -/
theorem OpOk.pure {v : V} {rd : List (Nat × Nat)} {rr : List Nat} (h : ∀ (j : J) (a : Act) (w : World), base ≤ w.heap.size → (∀ x ∈ o.op.operands.toList, ∀ v, vw.ev x = some v → v.den ρ j = some (a.eval x)) → RdOk ρ j w vw.ld rd → RrOk ρ base j w vw.rw rr → FbOk ρ j w vw.fb →
    ∃ u, v.den ρ j = some u ∧ (execOp a.eval o).run P w = .ok (.value u) w) : OpOk P ρ base vw o { val := v, rd := rd, rr := rr } := by
  intro j a w hb hev hrd _ hrr hfb K Q hK
  obtain ⟨u, hu, hr⟩ := h j a w hb hev hrd hrr hfb
  exact wp_val hr (hK u j w hu ⟨rfl, w, Ext.refl w, rfl⟩)

theorem run_loadCells {j : J} {b k : Nat} (hj : j.b b = some k) : ∀ (n o : Nat) (cs : List C), rowOf ld b o n = some cs → ∀ (w : World), RdOk ρ j w ld (rowRd b o n) → ∀ (a : Addr) (i : Nat) (acc : Array Value), (∀ m, a.add (i + m) = ⟨k, o + m, none⟩) →
    ∃ vs, denL ρ j cs = some vs ∧ (loadCellsFrom a i n acc).run P w = .ok (acc ++ vs.toArray) w
  | 0, o, cs, h, w, hrd, a, i, acc, ha => by
    cases h
    exact ⟨[], rfl, by simp [loadCellsFrom]⟩
  | n + 1, o, cs, h, w, hrd, a, i, acc, ha => by
    simp only [rowOf] at h
    cases hc : ld b o with
    | none => rw [hc] at h; cases h
    | some c =>
      cases hl : rowOf ld b (o + 1) n with
      | none => rw [hc, hl] at h; cases h
      | some l =>
        rw [hc, hl] at h; cases h
        obtain ⟨k', v, hk', hv, hcell⟩ := hrd (b, o) (by simp [rowRd]) c hc
        simp only at hk' hcell
        rw [hj] at hk'; cases hk'
        obtain ⟨vs, h1, h2⟩ := run_loadCells hj n (o + 1) l hl w (fun p hp => hrd p (by simp [rowRd]; exact .inr hp)) a (i + 1) (acc.push v) (fun m => by rw [Nat.add_assoc, Nat.add_comm 1 m, ← Nat.add_assoc, Nat.add_assoc, ha (m + 1)]; congr 1; omega)
        refine ⟨v :: vs, by simp [denL, hv, h1], ?_⟩
        have ha0 := ha 0
        simp only [Nat.add_zero] at ha0
        simp only [loadCellsFrom, ha0, Sem.run_bind, load, Sem.run, hcell, Result.andThen_ok, h2]
        simp

theorem part_ok {cx : Cx} (hT : ∀ t i, (t, i) ∈ cx.ty → TIok P t i) {ft : Nat} {cs : List C} {off : Nat} {v : V} (h : partV cx ft cs off = some v) {j : J} {vs : List Value} (hvs : denL ρ j cs = some vs) (w : World) :
    ∃ u, v.den ρ j = some u ∧ (part ft vs.toArray off).run P w = .ok u w := by
  unfold partV at h
  split at h
  · rename_i i hi
    have ht := hT _ _ (lookN_mem hi)
    split at h
    · rename_i hagg
      split at h
      · rename_i hlen
        cases h
        have h1 := denL_take (denL_drop hvs off) i.size
        refine ⟨.agg ((vs.drop off).take i.size).toArray, by simp only [V.den, h1, Option.map_some], ?_⟩
        have h2 : vs.toArray.extract off (off + i.size) = ((vs.drop off).take i.size).toArray := by
          simp [List.extract_eq_take_drop]
        simp only [part, Sem.run_bind, ht.agg, hagg, Result.andThen_ok, if_true, ht.size, h2, Sem.run_pure]
      · cases h
    · rename_i hagg
      rw [Option.map_eq_some_iff] at h
      obtain ⟨c, hc, rfl⟩ := h
      obtain ⟨u, hu, hd⟩ := denL_get hvs off c hc
      refine ⟨u, hd, ?_⟩
      have h3 : vs.toArray[off]? = some u := by simpa using hu
      simp only [part, Sem.run_bind, ht.agg, hagg, Result.andThen_ok, h3]
      simp
  · cases h
end
end Go.Proofs.Ytgfghplnankgnaa


/- The run of an operation is sound. Nothing of the program is in here. -/
set_option linter.unusedVariables false
set_option linter.unusedSimpArgs false
namespace Go.Proofs.Ytgfghplnankgnaa
open Go.RowKit

section
variable {P : Program} {sp : Spec} {ρ : Env} {G : Env → E → Prop} {I : Nat → List Dt → Prop} {base : Nat} {cx : Cx} {vw : Vw} {o : Oper} {k : Eff → Kw → Tr}

/-- What is to be shown of each kind of operation. -/
def Sound (P : Program) (sp : Spec) (ρ : Env) (G : Env → E → Prop) (I : Nat → List Dt → Prop) (base : Nat) (cx : Cx) (vw : Vw) (o : Oper) (k : Eff → Kw → Tr) (kw : Kw) : Prop :=
  ∃ eff kw', (k eff kw').holds sp G ρ I ∧ Good sp cx.sm ρ kw' ∧ KwGe kw' kw ∧ OpOk P ρ base vw o eff

theorem Sound.lv {kw kw' : Kw} (h : Sound P sp ρ G I base cx vw o k kw') (hl : KwGe kw' kw) : Sound P sp ρ G I base cx vw o k kw := by
  obtain ⟨eff, kw1, h1, h2, h3, h4⟩ := h
  exact ⟨eff, kw1, h1, h2, h3.trans hl, h4⟩

theorem snd_move {x : Operand} {kw : Kw} (hop : o.op = .move x ∨ o.op = .assign x) {v : V} (hv : vw.ev x = some v) (h : (k { val := v } kw).holds sp G ρ I) (hg : Good sp cx.sm ρ kw) : Sound P sp ρ G I base cx vw o k kw := by
  refine ⟨_, kw, h, hg, .refl _, OpOk.pure fun j a w _ hev _ _ _ => ⟨a.eval x, ?_, ?_⟩⟩
  · rcases hop with hop | hop <;> exact hev x (by simp [hop, Op.operands]) v hv
  · rcases hop with hop | hop <;> simp [execOp, hop]

theorem snd_alloc (hT : ∀ t i, (t, i) ∈ cx.ty → TIok P t i) {t : Nat} {kw : Kw} (hop : o.op = .alloc t) {i : TI} (hi : lookN t cx.ty = some i) (h : (k { val := .one (.ptr vw.nid 0), al := some (i.zero, t) } kw).holds sp G ρ I) (hg : Good sp cx.sm ρ kw) :
    Sound P sp ρ G I base cx vw o k kw := by
  refine ⟨_, kw, h, hg, .refl _, fun j a w _ hev hrd hwr _ _ K Q hK => ?_⟩
  obtain ⟨z, hz, hd⟩ := (hT _ _ (lookN_mem hi)).zero
  refine wp_val (w' := w.alloc (.cells z.cells t)) (v := .pointer (some ⟨w.heap.size, 0, none⟩)) ?_ (hK _ { j with b := fun b => if b = vw.nid then some w.heap.size else j.b b } _ ?_ ?_)
  · simp [execOp, hop, Instr.alloc, Sem.run_bind, hz, newVar, newRow, newObj, Sem.run]
  · simp [V.den, C.den]
  · exact ⟨z.cells.toList, hd ρ j, by simp, rfl⟩

theorem snd_box {t : Nat} {x : Operand} {kw : Kw} (hop : o.op = .box t x) {v : V} (hv : vw.ev x = some v) (hf : v.flat = true) (h : (k { val := .one (.ptr vw.nid 0), al := some (v.cells, t) } kw).holds sp G ρ I) (hg : Good sp cx.sm ρ kw) :
    Sound P sp ρ G I base cx vw o k kw := by
  refine ⟨_, kw, h, hg, .refl _, fun j a w _ hev hrd hwr _ _ K Q hK => ?_⟩
  have hd := V.cells_ok (hev x (by simp [hop, Op.operands]) v hv) hf
  refine wp_val (w' := w.alloc (.cells (a.eval x).cells t)) (v := .pointer (some ⟨w.heap.size, 0, none⟩)) ?_ (hK _ { j with b := fun b => if b = vw.nid then some w.heap.size else j.b b } _ ?_ ?_)
  · simp [execOp, hop, Instr.box, Sem.run_bind, newVar, newRow, newObj, Sem.run]
  · simp [V.den, C.den]
  · exact ⟨_, hd, by simp, rfl⟩

theorem ptr_of {j : J} {b off : Nat} {v : Value} (h : (V.one (.ptr b off)).den ρ j = some v) : ∃ kk, j.b b = some kk ∧ v = .pointer (some ⟨kk, off, none⟩) := by
  simp only [V.den, C.den, Option.map_eq_some_iff] at h
  obtain ⟨kk, hk, rfl⟩ := h
  exact ⟨kk, hk, rfl⟩
theorem add_none (kk off m : Nat) : (⟨kk, off, none⟩ : Addr).add m = ⟨kk, off + m, none⟩ := by
  unfold Addr.add
  split
  · rename_i h; subst h; rfl
  · rfl

theorem snd_load_row (hT : ∀ t i, (t, i) ∈ cx.ty → TIok P t i) {t : Nat} {x : Operand} {kw : Kw} (hop : o.op = .load t x) {b off : Nat} (hx : vw.ev x = some (.one (.ptr b off))) {i : TI} (hi : lookN t cx.ty = some i) (hagg : i.agg = true) {cs : List C} (hcs : rowOf vw.ld b off i.size = some cs)
    (h : (k { val := .agg cs, rd := rowRd b off i.size } kw).holds sp G ρ I) (hg : Good sp cx.sm ρ kw) : Sound P sp ρ G I base cx vw o k kw := by
  refine ⟨_, kw, h, hg, .refl _, OpOk.pure fun j a w _ hev hrd _ _ => ?_⟩
  have ht := hT _ _ (lookN_mem hi)
  obtain ⟨kk, hk, he⟩ := ptr_of (hev x (by simp [hop, Op.operands]) _ hx)
  obtain ⟨vs, h1, h2⟩ := run_loadCells (P := P) hk i.size off cs hcs w hrd ⟨kk, off, none⟩ 0 #[] (fun m => by rw [add_none]; simp)
  refine ⟨.agg vs.toArray, by simp only [V.den, h1, Option.map_some], ?_⟩
  simp [execOp, hop, he, Instr.loadAt, Instr.sureAddr, Sem.run_bind, loadVar, ht.agg, hagg, ht.size, loadCells, h2]

theorem snd_load_one (hT : ∀ t i, (t, i) ∈ cx.ty → TIok P t i) {t : Nat} {x : Operand} {kw : Kw} (hop : o.op = .load t x) {b off : Nat} (hx : vw.ev x = some (.one (.ptr b off))) {i : TI} (hi : lookN t cx.ty = some i) (hagg : ¬ i.agg = true) {c : C} (hc : vw.ld b off = some c)
    (h : (k { val := .one c, rd := [(b, off)] } kw).holds sp G ρ I) (hg : Good sp cx.sm ρ kw) : Sound P sp ρ G I base cx vw o k kw := by
  refine ⟨_, kw, h, hg, .refl _, OpOk.pure fun j a w _ hev hrd _ _ => ?_⟩
  have ht := hT _ _ (lookN_mem hi)
  obtain ⟨kk, hk, he⟩ := ptr_of (hev x (by simp [hop, Op.operands]) _ hx)
  obtain ⟨k', v, hk', hv, hcell⟩ := hrd (b, off) (by simp) c hc
  simp only at hk' hcell
  rw [hk] at hk'; cases hk'
  have hagg' : i.agg = false := by simpa using hagg
  refine ⟨v, hv, ?_⟩
  simp [execOp, hop, he, Instr.loadAt, Instr.sureAddr, Sem.run_bind, loadVar, ht.agg, hagg', load, Sem.run, hcell]

theorem run_storeCells {j : J} {b kk : Nat} (hj : j.b b = some kk) (a : Addr) : ∀ (cs : List C) (off i : Nat) (vs : List Value) (w : World), (∀ m, a.add (i + m) = ⟨kk, off + m, none⟩) → denL ρ j cs = some vs → cs.all C.solid = true → WrOk j w (rowWr b off cs) →
    ∃ w', Writes ρ j (rowWr b off cs) w w' ∧ (storeCells a vs i).run P w = .ok () w'
  | [], off, i, vs, w, ha, hd, hs, hw => by
    cases hd
    exact ⟨w, rfl, by simp [storeCells]⟩
  | c :: cs, off, i, vs, w, ha, hd, hs, hw => by
    simp only [denL] at hd
    cases hc : c.den ρ j with
    | none => rw [hc] at hd; cases hd
    | some v =>
      cases hl : denL ρ j cs with
      | none => rw [hc, hl] at hd; cases hd
      | some l =>
        rw [hc, hl] at hd; cases hd
        simp only [List.all_cons, Bool.and_eq_true] at hs
        obtain ⟨k', u, hk', hu, hfr⟩ := hw (b, off, c) (by simp [rowWr])
        simp only at hk' hu hfr
        rw [hj] at hk'; cases hk'
        have hw' : WrOk j (w.setCell ⟨kk, off, none⟩ v) (rowWr b (off + 1) cs) := by
          intro p hp
          obtain ⟨k2, u2, hk2, hu2, hf2⟩ := hw p (by simp [rowWr]; exact .inr hp)
          by_cases he : (⟨k2, p.2.1, none⟩ : Addr) = ⟨kk, off, none⟩
          · refine ⟨k2, v, hk2, ?_, ?_⟩
            · rw [he]; exact World.cell?_setCell_same _ _ _ (by rw [← he]; exact hu2)
            · rw [World.frozen?_setCell]; exact hf2
          · refine ⟨k2, u2, hk2, ?_, ?_⟩
            · rw [World.cell?_setCell_other _ _ _ _ (fun e => he e.symm)]; exact hu2
            · rw [World.frozen?_setCell]; exact hf2
        obtain ⟨w', h1, h2⟩ := run_storeCells hj a cs (off + 1) (i + 1) l (w.setCell ⟨kk, off, none⟩ v) (fun m => by rw [Nat.add_assoc, Nat.add_comm 1 m, ha (m + 1)]; congr 1; omega) hl hs.2 hw'
        refine ⟨w', ⟨kk, v, hj, hc, h1⟩, ?_⟩
        have ha0 := ha 0
        simp only [Nat.add_zero] at ha0
        simp only [storeCells, ha0, Sem.run_bind, run_store P w _ v _ (C.solid_ok hc hs.1), hu, hfr, Result.andThen_ok, Bool.false_eq_true, if_false]
        exact h2

theorem snd_store (hT : ∀ t i, (t, i) ∈ cx.ty → TIok P t i) {t : Nat} {x y : Operand} {kw : Kw} (hop : o.op = .store t x y) {b off : Nat} (hx : vw.ev x = some (.one (.ptr b off))) {v : V} (hy : vw.ev y = some v) {i : TI} (hi : lookN t cx.ty = some i)
    (hf : v.flat = true) (hn : Nat.beq v.cells.length i.size = true) (hs : v.cells.all C.solid = true) (h : (k { val := .one .undef, wr := rowWr b off v.cells } kw).holds sp G ρ I) (hg : Good sp cx.sm ρ kw) : Sound P sp ρ G I base cx vw o k kw := by
  refine ⟨_, kw, h, hg, .refl _, fun j a w _ hev hrd hwr _ _ K Q hK => ?_⟩
  have ht := hT _ _ (lookN_mem hi)
  obtain ⟨kk, hk, he⟩ := ptr_of (hev x (by simp [hop, Op.operands]) _ hx)
  have hd := V.cells_ok (hev y (by simp [hop, Op.operands]) v hy) hf
  obtain ⟨w', h1, h2⟩ := run_storeCells (P := P) hk ⟨kk, off, none⟩ v.cells off 0 _ w (fun m => by rw [add_none]; simp) hd hs hwr
  have hsz : (a.eval y).cells.size = i.size := by
    have := denL_length hd
    rw [Array.length_toList, Nat.eq_of_beq_eq_true hn] at this
    exact this
  refine wp_skp (w' := w') ?_ (hK _ j w' rfl ⟨rfl, w, Ext.refl w, h1⟩)
  simp [execOp, hop, he, Instr.storeAt, Instr.sureAddr, Sem.run_bind, storeVar, ht.size, hsz, h2]

theorem ptr_den {j : J} {c : C} {v : Value} (hc : (∃ b off, c = .ptr b off) ∨ (∃ b off, c = .fp b off) ∨ (∃ id esz e off, c = .ep id esz e off)) (h : (V.one c).den ρ j = some v) : ∃ a, v = .pointer (some a) := by
  rcases hc with ⟨b, off, rfl⟩ | ⟨b, off, rfl⟩ | ⟨id, esz, e, off, rfl⟩
  · simp only [V.den, C.den, Option.map_eq_some_iff] at h
    obtain ⟨kk, _, rfl⟩ := h
    exact ⟨_, rfl⟩
  · simp only [V.den, C.den, Option.map_eq_some_iff] at h
    obtain ⟨kk, _, rfl⟩ := h
    exact ⟨_, rfl⟩
  · simp only [V.den, C.den, Option.bind_eq_some_iff, SV.elem, Option.map_eq_some_iff] at h
    obtain ⟨s, _, a, _, rfl⟩ := h
    exact ⟨_, rfl⟩
theorem snd_nilCheck {x : Operand} {kw : Kw} (hop : o.op = .nilCheck x) {c : C} (hx : vw.ev x = some (.one c)) (hc : ((∃ b off, c = .ptr b off) ∨ (∃ b off, c = .fp b off) ∨ (∃ id esz e off, c = .ep id esz e off)) ∨ ∃ g, c = .fn g) (h : (k { val := .one c } kw).holds sp G ρ I) (hg : Good sp cx.sm ρ kw) : Sound P sp ρ G I base cx vw o k kw := by
  refine ⟨_, kw, h, hg, .refl _, OpOk.pure fun j a w _ hev _ _ _ => ⟨a.eval x, hev x (by simp [hop, Op.operands]) _ hx, ?_⟩⟩
  have hd := hev x (by simp [hop, Op.operands]) _ hx
  rcases hc with hc | ⟨g, rfl⟩
  · obtain ⟨a', he⟩ := ptr_den hc hd
    simp [execOp, hop, he]
  · have he : a.eval x = .func (.func g) #[] #[] := by
      exact (Option.some.inj hd).symm
    simp [execOp, hop, he]

theorem snd_nilCheckC {x : Operand} {kw : Kw} (hop : o.op = .nilCheck x) {g : Nat} {fs ps : List (Option (Bool × Nat × Nat))} (hx : vw.ev x = some (.one (.clo g fs ps))) (h : (k { val := .one (.clo g fs ps) } kw).holds sp G ρ I) (hg : Good sp cx.sm ρ kw) : Sound P sp ρ G I base cx vw o k kw := by
  refine ⟨_, kw, h, hg, .refl _, OpOk.pure fun j a w _ hev _ _ _ => ⟨a.eval x, hev x (by simp [hop, Op.operands]) _ hx, ?_⟩⟩
  have hd := hev x (by simp [hop, Op.operands]) _ hx
  obtain ⟨y, z, _, _, he⟩ := cloV_some (show cloV g (ptrVs j fs) (ptrVs j ps) = some (a.eval x) from hd)
  simp [execOp, hop, he]
theorem capE_ok {ev : Operand → Option V} {j : J} {a : Act} : ∀ {l : List Operand} {cs : List (Option (Bool × Nat × Nat))}, capE ev l = some cs → (∀ x ∈ l, ∀ v, ev x = some v → v.den ρ j = some (a.eval x)) → ptrVs j cs = some (l.map a.eval)
  | [], cs, h, _ => by cases h; rfl
  | x :: l, cs, h, hev => by
    have tail := fun {ds} (hd : capE ev l = some ds) => capE_ok (j := j) (a := a) hd (fun y hy => hev y (List.mem_cons_of_mem _ hy))
    simp only [capE] at h
    split at h
    · rename_i b o ds hx hl
      cases h
      have h1 := hev x List.mem_cons_self _ hx
      simp only [V.den, C.den] at h1
      simp only [ptrVs, ptrV, List.map_cons, h1, tail hl]
    · rename_i b o ds hx hl
      cases h
      have h1 := hev x List.mem_cons_self _ hx
      simp only [V.den, C.den] at h1
      simp only [ptrVs, ptrV, List.map_cons, h1, tail hl]
    · rename_i ds hx hl
      cases h
      have h1 := hev x List.mem_cons_self _ hx
      simp only [V.den, C.den] at h1
      simp only [ptrVs, ptrV, List.map_cons, h1, tail hl]
    · cases h
theorem snd_makeFunc {g : Nat} {fs ps : Array Operand} {kw : Kw} (hop : o.op = .makeFunc (.func g) fs ps) {x y : List (Option (Bool × Nat × Nat))} (hx : capE vw.ev fs.toList = some x) (hy : capE vw.ev ps.toList = some y) (h : (k { val := .one (.clo g x y) } kw).holds sp G ρ I) (hg : Good sp cx.sm ρ kw) : Sound P sp ρ G I base cx vw o k kw := by
  refine ⟨_, kw, h, hg, .refl _, OpOk.pure fun j a w _ hev _ _ _ => ?_⟩
  have h1 := capE_ok (ρ := ρ) (j := j) (a := a) hx (fun z hz => hev z (by simp [hop, Op.operands]; exact .inl (by simpa using hz)))
  have h2 := capE_ok (ρ := ρ) (j := j) (a := a) hy (fun z hz => hev z (by simp [hop, Op.operands]; exact .inr (by simpa using hz)))
  refine ⟨.func (.func g) (fs.map a.eval) (ps.map a.eval), ?_, ?_⟩
  · simp only [V.den, C.den, h1, h2, cloV]
    have e : ∀ (q : Array Operand), (q.toList.map a.eval).toArray = q.map a.eval := fun q => by rw [← Array.toList_map, Array.toArray_toList]
    rw [e, e]
  · simp [execOp, hop, Instr.makeFunc, Sem.run_bind]

theorem one_int {j : J} {kd : IntKind} {e : E} {v : Value} (h : (V.one (.int kd e)).den ρ j = some v) : v = .int kd (e.I ρ) := by
  exact (Option.some.inj h).symm
theorem one_bool {j : J} {e : E} {v : Value} (h : (V.one (.bool e)).den ρ j = some v) : v = .bool (e.B ρ) := by
  exact (Option.some.inj h).symm

theorem snd_un {op : UnOp} {t : Nat} {x : Operand} {kw : Kw} (hop : o.op = .unOp op t x) {v : V} (hv : vw.ev x = some v)
    (h : (match (generalizing := false) op, v with
      | .not, .one (.bool e) => k { val := .one (.bool (mkNot e)) } kw
      | .neg, .one (.int kd e) => k { val := .one (.int kd (mkBin .sub kd (.lit 0) e)) } kw
      | .xor, .one (.int kd e) => k { val := .one (.int kd (mkBin .xor kd (.lit (if kd.signed then -1 else kd.max)) e)) } kw
      | _, _ => .stuck 10).holds sp G ρ I) (hg : Good sp cx.sm ρ kw) : Sound P sp ρ G I base cx vw o k kw := by
  split at h
  · rename_i e
    refine ⟨_, kw, h, hg, .refl _, OpOk.pure fun j a w _ hev _ _ _ => ⟨.bool (!e.B ρ), by simp [V.den, C.den, mkNot_B], ?_⟩⟩
    rw [show execOp a.eval o = _ from by simp only [execOp, hop]; rfl]
    simp [one_bool (hev x (by simp [hop, Op.operands]) _ hv), Op.unary, Sem.run_bind]
  · rename_i kd e
    refine ⟨_, kw, h, hg, .refl _, OpOk.pure fun j a w _ hev _ _ _ => ⟨.int kd (kd.wrap (0 - e.I ρ)), by simp [V.den, C.den, mkBin_I, opI, E.I], ?_⟩⟩
    simp [execOp, hop, one_int (hev x (by simp [hop, Op.operands]) _ hv), Op.unary, Op.intArith, Sem.run_bind]
  · rename_i kd e
    refine ⟨_, kw, h, hg, .refl _, OpOk.pure fun j a w _ hev _ _ _ => ⟨.int kd (bits .xor kd (if kd.signed then -1 else kd.max) (e.I ρ)), by simp [V.den, C.den, mkBin_I, opI, E.I], ?_⟩⟩
    simp [execOp, hop, one_int (hev x (by simp [hop, Op.operands]) _ hv), Op.unary, intBits_xor, Sem.run_bind]
  · cases h

theorem wrap_in {kd : IntKind} {z : Int} (h : inK kd z = true) : kd.wrap z = z := by
  rw [inK_iff] at h
  cases kd <;> simp only [IntKind.min, IntKind.max, IntKind.wrap, IntKind.bits, IntKind.signed] at * <;> simp at * <;> (try split) <;> omega

theorem snd_conv (hT : ∀ t i, (t, i) ∈ cx.ty → TIok P t i) {s d : Nat} {x : Operand} {kw : Kw} (hop : o.op = .convert s d x) {k0 : IntKind} {e : E} (hx : vw.ev x = some (.one (.int k0 e))) {i is : TI} (hi : lookN d cx.ty = some i) (his : lookN s cx.ty = some is) {kd : IntKind} (hk : i.ik = some kd)
    (h : (k { val := .one (.int kd (if e.rng kw.vk kd then e else mkConv kd e)) } kw).holds sp G ρ I) (hg : Good sp cx.sm ρ kw) : Sound P sp ρ G I base cx vw o k kw := by
  have hd := (hT _ _ (lookN_mem hi)).ik kd hk
  obtain ⟨ds, hs⟩ := (hT _ _ (lookN_mem his)).und
  refine ⟨_, kw, h, hg, .refl _, OpOk.pure fun j a w _ hev _ _ _ => ⟨.int kd (kd.wrap (e.I ρ)), ?_, ?_⟩⟩
  · split
    · rename_i hr
      simp [V.den, C.den, wrap_in (E.rng_ok hg.vk e hr)]
    · simp [V.den, C.den, mkConv_I]
  · simp [execOp, hop, one_int (hev x (by simp [hop, Op.operands]) _ hx), convert, run_underlying hs, run_underlying hd, Conv.intToInt, Sem.run_bind]

/-- A pointer moved on. -/
theorem snd_fieldAddr (hT : ∀ t i, (t, i) ∈ cx.ty → TIok P t i) {s f : Nat} {x : Operand} {kw : Kw} (hop : o.op = .fieldAddr s x f) {c c' : C} (hx : vw.ev x = some (.one c)) {i : TI} (hi : lookN s cx.ty = some i) {fo ft : Nat} (hf : i.fields[f]? = some (fo, ft))
    (hm : ∀ j v, c.den ρ j = some v → ∃ a, v = .pointer (some a) ∧ c'.den ρ j = some (.pointer (some (a.add fo)))) (h : (k { val := .one c' } kw).holds sp G ρ I) (hg : Good sp cx.sm ρ kw) : Sound P sp ρ G I base cx vw o k kw := by
  have ht := hT _ _ (lookN_mem hi)
  refine ⟨_, kw, h, hg, .refl _, OpOk.pure fun j a w _ hev _ _ _ => ?_⟩
  obtain ⟨p, he, hd⟩ := hm j _ (hev x (by simp [hop, Op.operands]) _ hx)
  refine ⟨_, hd, ?_⟩
  simp [execOp, hop, he, ht.fieldAt f fo ft hf, Sem.run_bind]
theorem addr_add_add (a : Addr) (m n : Nat) : (a.add m).add n = a.add (m + n) := by
  unfold Addr.add
  by_cases hm : m = 0
  · subst hm; simp
  · by_cases hn : n = 0
    · subst hn; simp
    · simp [hm, hn, Nat.add_assoc]
theorem moved_ptr {j : J} {b off fo : Nat} {v : Value} (h : (C.ptr b off).den ρ j = some v) : ∃ a, v = .pointer (some a) ∧ (C.ptr b (off + fo)).den ρ j = some (.pointer (some (a.add fo))) := by
  simp only [C.den, Option.map_eq_some_iff] at h
  obtain ⟨kk, hk, rfl⟩ := h
  exact ⟨_, rfl, by simp [C.den, hk, add_none]⟩
theorem moved_fp {j : J} {b off fo : Nat} {v : Value} (h : (C.fp b off).den ρ j = some v) : ∃ a, v = .pointer (some a) ∧ (C.fp b (off + fo)).den ρ j = some (.pointer (some (a.add fo))) := by
  simp only [C.den, Option.map_eq_some_iff] at h
  obtain ⟨kk, hk, rfl⟩ := h
  exact ⟨_, rfl, by simp [C.den, hk, add_none]⟩
theorem moved_ep {j : J} {id esz : Nat} {e : E} {off fo : Nat} {v : Value} (h : (C.ep id esz e off).den ρ j = some v) : ∃ a, v = .pointer (some a) ∧ (C.ep id esz e (off + fo)).den ρ j = some (.pointer (some (a.add fo))) := by
  simp only [C.den, Option.bind_eq_some_iff, SV.elem, Option.map_eq_some_iff] at h
  obtain ⟨s, hs, a, ha, rfl⟩ := h
  exact ⟨_, rfl, by simp [C.den, hs, SV.elem, ha, addr_add_add, Nat.add_assoc]⟩

theorem snd_field (hT : ∀ t i, (t, i) ∈ cx.ty → TIok P t i) {s f : Nat} {x : Operand} {kw : Kw} (hop : o.op = .field s x f) {cs : List C} (hx : vw.ev x = some (.agg cs)) {i : TI} (hi : lookN s cx.ty = some i) {fo ft : Nat} (hf : i.fields[f]? = some (fo, ft)) {v : V} (hp : partV cx ft cs fo = some v)
    (h : (k { val := v } kw).holds sp G ρ I) (hg : Good sp cx.sm ρ kw) : Sound P sp ρ G I base cx vw o k kw := by
  have ht := hT _ _ (lookN_mem hi)
  refine ⟨_, kw, h, hg, .refl _, OpOk.pure fun j a w _ hev _ _ _ => ?_⟩
  have hd := hev x (by simp [hop, Op.operands]) _ hx
  simp only [V.den, Option.map_eq_some_iff] at hd
  obtain ⟨vs, hvs, he⟩ := hd
  obtain ⟨u, hu, hr⟩ := part_ok hT hp hvs w
  refine ⟨u, hu, ?_⟩
  simp [execOp, hop, ← he, ht.field f fo ft hf, hr, Sem.run_bind]

theorem snd_extract {x : Operand} {n : Nat} {kw : Kw} (hop : o.op = .extract x n) {vs : List (Bool × List C)} (hx : vw.ev x = some (.tup vs)) {p : Bool × List C} (hp : vs[n]? = some p) {v : V} (hv : (∃ cs, p = (true, cs) ∧ v = .agg cs) ∨ ∃ c, p = (false, [c]) ∧ v = .one c)
    (h : (k { val := v } kw).holds sp G ρ I) (hg : Good sp cx.sm ρ kw) : Sound P sp ρ G I base cx vw o k kw := by
  refine ⟨_, kw, h, hg, .refl _, OpOk.pure fun j a w _ hev _ _ _ => ?_⟩
  have hd := hev x (by simp [hop, Op.operands]) _ hx
  simp only [V.den, Option.map_eq_some_iff] at hd
  obtain ⟨us, hus, he⟩ := hd
  obtain ⟨u, hu, hr⟩ := den0L_get hus n p hp
  refine ⟨u, ?_, ?_⟩
  · rcases hv with ⟨cs, rfl, rfl⟩ | ⟨c, rfl, rfl⟩ <;> exact hr
  · simp [execOp, hop, ← he, Instr.extract, hu, Sem.run_bind]

theorem evL_ok {ev : Operand → Option V} {j : J} {a : Act} : ∀ {l : List Operand} {vs : List V}, evL ev l = some vs → (∀ x ∈ l, ∀ v, ev x = some v → v.den ρ j = some (a.eval x)) → (∀ (i : Nat) x u, vs[i]? = some x → (l.map a.eval)[i]? = some u → x.den ρ j = some u) ∧ (l.map a.eval).length = vs.length
  | [], vs, h, hev => by cases h; exact ⟨fun i x u hx => by simp at hx, rfl⟩
  | x :: l, vs, h, hev => by
    simp only [evL] at h
    cases hc : ev x with
    | none => rw [hc] at h; cases h
    | some v =>
      cases hl : evL ev l with
      | none => rw [hc, hl] at h; cases h
      | some us =>
        rw [hc, hl] at h; cases h
        obtain ⟨h1, h2⟩ := evL_ok hl (fun y hy => hev y (List.mem_cons_of_mem _ hy))
        refine ⟨fun i y u hy hu => ?_, by simp [h2]⟩
        cases i with
        | zero =>
          simp at hy hu
          subst hy hu
          exact hev x List.mem_cons_self v hc
        | succ i => exact h1 i y u (by simpa using hy) (by simpa using hu)
end
end Go.Proofs.Ytgfghplnankgnaa


/- The run of an operation is sound: sums and tests, indices, least and greatest, calls; all kinds together. Nothing of the program is in here. -/
set_option linter.unusedVariables false
set_option linter.unusedSimpArgs false
namespace Go.Proofs.Ytgfghplnankgnaa
open Go.RowKit

section
variable {P : Program} {sp : Spec} {ρ : Env} {G : Env → E → Prop} {I : Nat → List Dt → Prop} {base : Nat} {cx : Cx} {vw : Vw} {o : Oper} {k : Eff → Kw → Tr}

/-- Behind whatever was decided on the way: an operation that only reckons. -/
theorem snd_int {op : BinOp} {xt yt : Nat} {x y : Operand} {kw : Kw} (hop : o.op = .binOp op xt x y yt) {k1 k2 : IntKind} {a b : E} (hx : vw.ev x = some (.one (.int k1 a))) (hy : vw.ev y = some (.one (.int k2 b))) {v : V} {u : Value} (hv : ∀ j, v.den ρ j = some u)
    (hr : ∀ w, (binOp op xt (.int k1 (a.I ρ)) (.int k2 (b.I ρ))).run P w = .ok u w) (h : (k { val := v } kw).holds sp G ρ I) (hg : Good sp cx.sm ρ kw) : Sound P sp ρ G I base cx vw o k kw := by
  refine ⟨_, kw, h, hg, .refl _, OpOk.pure fun j ac w _ hev _ _ _ => ⟨u, hv j, ?_⟩⟩
  have h1 := one_int (hev x (by simp [hop, Op.operands]) _ hx)
  have h2 := one_int (hev y (by simp [hop, Op.operands]) _ hy)
  have h3 := hr w
  simp [execOp, hop, h1, h2, eqGuard_at_int, h3, Sem.run_bind]

theorem snd_bools {op : BinOp} {xt yt : Nat} {x y : Operand} {kw : Kw} (hop : o.op = .binOp op xt x y yt) {a b : E} (hx : vw.ev x = some (.one (.bool a))) (hy : vw.ev y = some (.one (.bool b))) {v : V} {u : Value} (hv : ∀ j, v.den ρ j = some u)
    (hr : ∀ w, (binOp op xt (.bool (a.B ρ)) (.bool (b.B ρ))).run P w = .ok u w) (h : (k { val := v } kw).holds sp G ρ I) (hg : Good sp cx.sm ρ kw) : Sound P sp ρ G I base cx vw o k kw := by
  refine ⟨_, kw, h, hg, .refl _, OpOk.pure fun j ac w _ hev _ _ _ => ⟨u, hv j, ?_⟩⟩
  have h1 := one_bool (hev x (by simp [hop, Op.operands]) _ hx)
  have h2 := one_bool (hev y (by simp [hop, Op.operands]) _ hy)
  have h3 := hr w
  simp [execOp, hop, h1, h2, eqGuard_at_bool, h3, Sem.run_bind]

theorem snd_aggs (hT : ∀ t i, (t, i) ∈ cx.ty → TIok P t i) {op : BinOp} (hne : op = .eql ∨ op = .neq) {xt yt : Nat} {x y : Operand} {kw : Kw} (hop : o.op = .binOp op xt x y yt) {cs ds : List C} (hx : vw.ev x = some (.agg cs)) (hy : vw.ev y = some (.agg ds)) {i : TI} (hi : lookN xt cx.ty = some i) (hq : i.eqok = true) (hk1 : kindsC cs i.zero = true ∧ cs.all (C.rng kw.vk) = true) (hk2 : kindsC ds i.zero = true ∧ ds.all (C.rng kw.vk) = true) {e : E} (he : eqCells cs ds = some e)
    (h : (k { val := .one (.bool (if op = .eql then e else mkNot e)) } kw).holds sp G ρ I) (hg : Good sp cx.sm ρ kw) : Sound P sp ρ G I base cx vw o k kw := by
  have ht := hT _ _ (lookN_mem hi)
  refine ⟨_, kw, h, hg, .refl _, OpOk.pure fun j ac w _ hev _ _ _ => ⟨.bool (if op = .eql then e.B ρ else !e.B ρ), ?_, ?_⟩⟩
  · rcases hne with rfl | rfl <;> simp [V.den, C.den, mkNot_B]
  · obtain ⟨vs, us, h1, h2, h3, h4⟩ := eqCells_ok (ρ := ρ) (j := j) he
    have hdx := hev x (by simp [hop, Op.operands]) _ hx
    have hdy := hev y (by simp [hop, Op.operands]) _ hy
    simp only [V.den, h1, h2, Option.map_some, Option.some.injEq] at hdx hdy
    have h5 := ht.eq hq vs us (kindsC_ok hg.vk hk1.1 hk1.2 h1) (kindsC_ok hg.vk hk2.1 hk2.2 h2) w
    have h6 : (eqGuard op xt x y (.agg vs.toArray) (.agg us.toArray)).run P w = .ok () w := by
      rcases hne with rfl | rfl <;> simp [eqGuard, program, Sem.run_bind, Sem.run, ht.grd hq]
    rcases hne with rfl | rfl <;> simp [execOp, hop, ← hdx, ← hdy, h6, binOp, h5, h4, Sem.run_bind]

theorem snd_fns {op : BinOp} (hne : op = .eql ∨ op = .neq) {xt yt : Nat} {x y : Operand} {kw : Kw} (hop : o.op = .binOp op xt x y yt) {c d : C} (hx : vw.ev x = some (.one c)) (hy : vw.ev y = some (.one d)) {X Y : Value} (hX : ∀ j, c.den ρ j = some X) (hY : ∀ j, d.den ρ j = some Y)
    (hXY : (∃ f, X = .func f #[] #[]) ∨ X = .nilFunc) (hYn : Y = .nilFunc) {r : Bool} (he : ∀ w, (Op.equal xt X Y).run P w = .ok r w) (h : (k { val := .one (.bool (.tt (if op = .eql then r else !r))) } kw).holds sp G ρ I) (hg : Good sp cx.sm ρ kw) : Sound P sp ρ G I base cx vw o k kw := by
  refine ⟨_, kw, h, hg, .refl _, OpOk.pure fun j ac w _ hev _ _ _ => ⟨.bool (if op = .eql then r else !r), by simp [V.den, C.den, E.B], ?_⟩⟩
  have hdx : (V.one c).den ρ j = some (ac.eval x) := hev x (by simp [hop, Op.operands]) _ hx
  have hdy : (V.one d).den ρ j = some (ac.eval y) := hev y (by simp [hop, Op.operands]) _ hy
  have h1 : ac.eval x = X := (Option.some.inj ((hX j).symm.trans hdx)).symm
  have h2 : ac.eval y = Y := (Option.some.inj ((hY j).symm.trans hdy)).symm
  have h3 := he w
  subst hYn
  rcases hXY with ⟨f, rfl⟩ | rfl
  · rcases hne with rfl | rfl <;> simp [execOp, hop, h1, h2, eqGuard, binOp, h3, Sem.run_bind]
  · rcases hne with rfl | rfl <;> simp [execOp, hop, h1, h2, eqGuard, binOp, h3, Sem.run_bind]

theorem inK_nonneg {kd : IntKind} {z : Int} (h : inK kd z = true) (hs : kd.signed = false) : 0 ≤ z := by
  rw [inK_iff] at h
  cases kd <;> simp only [IntKind.min, IntKind.signed] at * <;> simp at * <;> omega

theorem min_max_int {x y : Int} : (if y < x then y else x) = min x y ∧ (if y > x then y else x) = max x y := by
  constructor <;> split <;> omega

theorem snd_arith {op : BinOp} {xt yt : Nat} {x y : Operand} {kw : Kw} (hop : o.op = .binOp op xt x y yt) {k1 k2 : IntKind} {a b : E} (hx : vw.ev x = some (.one (.int k1 a))) (hy : vw.ev y = some (.one (.int k2 b)))
    (hr : ∀ w, (binOp op xt (.int k1 (a.I ρ)) (.int k2 (b.I ρ))).run P w = .ok (.int k1 (opI op k1 (a.I ρ) (b.I ρ))) w) (h : (k { val := .one (.int k1 (mkBin op k1 a b)) } kw).holds sp G ρ I) (hg : Good sp cx.sm ρ kw) : Sound P sp ρ G I base cx vw o k kw :=
  snd_int hop hx hy (fun j => by simp [V.den, C.den, mkBin_I]) hr h hg
theorem snd_cmp {op : BinOp} {xt yt : Nat} {x y : Operand} {kw : Kw} (hop : o.op = .binOp op xt x y yt) {k1 k2 : IntKind} {a b e : E} (hx : vw.ev x = some (.one (.int k1 a))) (hy : vw.ev y = some (.one (.int k2 b)))
    (hr : ∀ w, (binOp op xt (.int k1 (a.I ρ)) (.int k2 (b.I ρ))).run P w = .ok (.bool (e.B ρ)) w) (h : (k { val := .one (.bool e) } kw).holds sp G ρ I) (hg : Good sp cx.sm ρ kw) : Sound P sp ρ G I base cx vw o k kw :=
  snd_int hop hx hy (fun j => by simp [V.den, C.den]) hr h hg
theorem not_lt_le (a b : Int) : decide (a ≤ b) = !decide (b < a) := by
  by_cases h : a ≤ b <;> simp [h] <;> omega

theorem snd_shift {op : BinOp} {xt yt : Nat} {x y : Operand} {kw : Kw} (hop : o.op = .binOp op xt x y yt) (ho : op = .shl ∨ op = .shr) {k1 k2 : IntKind} {a b : E} (hx : vw.ev x = some (.one (.int k1 a))) (hy : vw.ev y = some (.one (.int k2 b)))
    (h : (if k2.signed then decK (mkLt b (.lit 0)) (fun neg kw => if neg then .panic else k { val := .one (.int k1 (mkBin op k1 a b)) } kw) kw
      else if b.rng kw.vk k2 then k { val := .one (.int k1 (mkBin op k1 a b)) } kw else .stuck 11 : Tr).holds sp G ρ I) (hg : Good sp cx.sm ρ kw) : Sound P sp ρ G I base cx vw o k kw := by
  have hr : ¬ b.I ρ < 0 → ∀ w, (binOp op xt (.int k1 (a.I ρ)) (.int k2 (b.I ρ))).run P w = .ok (.int k1 (opI op k1 (a.I ρ) (b.I ρ))) w := by
    intro hb w
    rcases ho with rfl | rfl <;> simp [binOp, Op.shift, hb, opI]
  split at h
  · obtain ⟨kw', h1, g1, _, l1⟩ := decK_ok _ _ _ h hg
    rw [mkLt_B] at h1
    split at h1
    · exact h1.elim
    · rename_i hb
      exact (snd_arith hop hx hy (hr (fun hlt => hb (decide_eq_true hlt))) h1 g1).lv l1
  · rename_i hsg
    split at h
    · rename_i hrg
      have := inK_nonneg (E.rng_ok hg.vk b hrg) (by simpa using hsg)
      exact snd_arith hop hx hy (hr (by omega)) h hg
    · exact h.elim
theorem snd_div {op : BinOp} {xt yt : Nat} {x y : Operand} {kw : Kw} (hop : o.op = .binOp op xt x y yt) (ho : op = .quo ∨ op = .rem) {k1 : IntKind} {a b : E} (hx : vw.ev x = some (.one (.int k1 a))) (hy : vw.ev y = some (.one (.int k1 b)))
    (h : (decK (mkEq b (.lit 0)) (fun z kw => if z then .panic else k { val := .one (.int k1 (mkBin op k1 a b)) } kw) kw : Tr).holds sp G ρ I) (hg : Good sp cx.sm ρ kw) : Sound P sp ρ G I base cx vw o k kw := by
  obtain ⟨kw', h1, g1, _, l1⟩ := decK_ok _ _ _ h hg
  rw [mkEq_B] at h1
  split at h1
  · exact h1.elim
  · rename_i hb
    have hb' : ¬ b.I ρ = 0 := by simpa [E.I] using hb
    refine (snd_arith hop hx hy (fun w => ?_) h1 g1).lv l1
    rcases ho with rfl | rfl <;> simp [opI, binOp_quo, binOp_rem, Op.intDiv, hb']

theorem snd_bin (hT : ∀ t i, (t, i) ∈ cx.ty → TIok P t i) {op : BinOp} {xt yt : Nat} {x y : Operand} {kw : Kw} (hop : o.op = .binOp op xt x y yt) {v u : V} (hx : vw.ev x = some v) (hy : vw.ev y = some u) (h : (binK cx op xt v u kw k).holds sp G ρ I) (hg : Good sp cx.sm ρ kw) : Sound P sp ρ G I base cx vw o k kw := by
  unfold binK at h
  split at h
  · split at h
    · exact snd_shift hop (.inl rfl) hx hy h hg
    · exact snd_shift hop (.inr rfl) hx hy h hg
    · split at h
      · rename_i hk
        have hk' := kdSame_eq hk
        subst hk'
        split at h
        · exact snd_arith hop hx hy (fun w => by simp [opI, binOp_add, Op.intArith]) h hg
        · exact snd_arith hop hx hy (fun w => by simp [opI, binOp_sub, Op.intArith]) h hg
        · exact snd_arith hop hx hy (fun w => by simp [opI, binOp_mul, Op.intArith]) h hg
        · exact snd_arith hop hx hy (fun w => by simp [opI, binOp_and, intBits_and]) h hg
        · exact snd_arith hop hx hy (fun w => by simp [opI, binOp_or, intBits_or]) h hg
        · exact snd_arith hop hx hy (fun w => by simp [opI, binOp_xor, intBits_xor]) h hg
        · exact snd_arith hop hx hy (fun w => by simp [opI, binOp_andNot, intBits_andNot]) h hg
        · exact snd_div hop (.inl rfl) hx hy h hg
        · exact snd_div hop (.inr rfl) hx hy h hg
        · exact snd_cmp hop hx hy (fun w => by simp [binOp_eql, mkEq_B]) h hg
        · exact snd_cmp hop hx hy (fun w => by simp [binOp_neq, mkNot_B, mkEq_B]; rfl) h hg
        · exact snd_cmp hop hx hy (fun w => by simp [binOp_lss, mkLt_B]) h hg
        · exact snd_cmp hop hx hy (fun w => by simp only [binOp_leq, mkNot_B, mkLt_B, not_lt_le]; rfl) h hg
        · exact snd_cmp hop hx hy (fun w => by simp [binOp_gtr, mkLt_B]) h hg
        · exact snd_cmp hop hx hy (fun w => by simp only [binOp_geq, mkNot_B, mkLt_B, ge_iff_le, not_lt_le]; rfl) h hg
        · exact h.elim
      · exact h.elim
  · rename_i a b
    have eqb : ∀ (i : TI), lookN xt cx.ty = some i → i.isb = true → ∀ w, (Op.equal xt (.bool (a.B ρ)) (.bool (b.B ρ))).run P w = .ok (a.B ρ == b.B ρ) w := by
      intro i hi hb w
      have hu := (hT _ _ (lookN_mem hi)).isb hb
      unfold Op.equal Op.maxDepth Op.equalIn
      simp [Sem.run_bind, run_underlying hu]
    split at h
    · split at h
      · rename_i i hi
        split at h
        · rename_i hb
          have h3 := eqb i hi hb
          exact snd_bools hop hx hy (u := .bool (a.B ρ == b.B ρ)) (fun j => by simp [V.den, C.den, mkBeq_B]) (fun w => by simp [binOp, h3, Sem.run_bind]) h hg
        · exact h.elim
      · exact h.elim
    · split at h
      · rename_i i hi
        split at h
        · rename_i hb
          have h3 := eqb i hi hb
          exact snd_bools hop hx hy (u := .bool (!(a.B ρ == b.B ρ))) (fun j => by simp [V.den, C.den, mkBeq_B, mkNot_B]) (fun w => by simp [binOp, h3, Sem.run_bind]) h hg
        · exact h.elim
      · exact h.elim
    · exact h.elim
  · rename_i g
    split at h
    · rename_i i hi
      split at h
      · rename_i hf
        have ht := (hT _ _ (lookN_mem hi)).fnt hf
        split at h
        · rename_i h0; cases h0
        · rename_i h0; cases h0
        · exact snd_fns (.inl rfl) hop hx hy (fun _ => rfl) (fun _ => rfl) (.inl ⟨_, rfl⟩) rfl (fun w => (ht g w).1) h hg
        · exact snd_fns (.inr rfl) hop hx hy (fun _ => rfl) (fun _ => rfl) (.inl ⟨_, rfl⟩) rfl (fun w => (ht g w).1) h hg
        · exact h.elim
      · exact h.elim
    · exact h.elim
  · split at h
    · rename_i i hi
      split at h
      · rename_i hf
        have ht := (hT _ _ (lookN_mem hi)).fnt hf
        split at h
        · exact snd_fns (.inl rfl) hop hx hy (fun _ => rfl) (fun _ => rfl) (.inr rfl) rfl (fun w => (ht 0 w).2) h hg
        · exact snd_fns (.inr rfl) hop hx hy (fun _ => rfl) (fun _ => rfl) (.inr rfl) rfl (fun w => (ht 0 w).2) h hg
        · rename_i h0; exact absurd rfl h0
        · rename_i h0; exact absurd rfl h0
        · exact h.elim
      · exact h.elim
    · exact h.elim
  · split at h
    · rename_i i e hi he
      split at h
      · rename_i hq
        simp only [Bool.and_eq_true] at hq
        split at h
        · exact snd_aggs hT (.inl rfl) hop hx hy hi hq.1 ⟨hq.2.1.1, rngs_ok _ kw.vk 0 rfl hq.2.1.2⟩ ⟨hq.2.2.1, rngs_ok _ kw.vk 0 rfl hq.2.2.2⟩ he h hg
        · exact snd_aggs hT (.inr rfl) hop hx hy hi hq.1 ⟨hq.2.1.1, rngs_ok _ kw.vk 0 rfl hq.2.1.2⟩ ⟨hq.2.2.1, rngs_ok _ kw.vk 0 rfl hq.2.2.2⟩ he h hg
        · exact h.elim
      · exact h.elim
    · exact h.elim
  · exact h.elim
end
end Go.Proofs.Ytgfghplnankgnaa

