/- A symbolic run of one operation: smart expressions, decisions, what an operation does; and that the model's operation does so. Nothing of the program is in here. -/
import Derived.Test.YtcngfmhhaleoaaaSxA
import Derived.OpenShut
set_option linter.unusedVariables false
set_option linter.unusedSimpArgs false
namespace Go.Proofs.Ytcngfmhhaleoaaa
open Go.RowKit

/-- A cell's kind in a contract's shape. -/
inductive CK where
  | int (k : IntKind)
  | bool
  | fn (g : Nat)
  | lit (k : IntKind) (z : Int)
  deriving Repr, Inhabited

/-- The tree of a run: leaves with a result, branches on conditions, calls that bring new variables. -/
inductive Tr where
  | leaf (v : V)
  | panic
  | stuck (n : Nat)
  | br (e : E) (t f : Tr)
  | call (key : Nat) (ks : List CK) (args : E) (v0 : Nat) (t : Tr)
  deriving Repr, Inhabited

/-- What the called functions come to: number of the contract, place in the result, the arguments' numbers. -/
structure Spec where
  I : Nat → Nat → List Int → Int
  B : Nat → Nat → List Int → Bool

def eqs (sp : Spec) (ρ : Env) (key v0 : Nat) (xs : List Int) : Nat → List CK → Prop
  | _, [] => True
  | n, .int _ :: ks => ρ.i (v0 + n) = sp.I key n xs ∧ eqs sp ρ key v0 xs (n + 1) ks
  | n, .bool :: ks => ρ.b (v0 + n) = sp.B key n xs ∧ eqs sp ρ key v0 xs (n + 1) ks
  | n, .fn _ :: ks => eqs sp ρ key v0 xs (n + 1) ks
  | n, .lit _ _ :: ks => eqs sp ρ key v0 xs (n + 1) ks

def Tr.holds (sp : Spec) (ρ : Env) (G : V → Prop) : Tr → Prop
  | .leaf v => G v
  | .panic => False
  | .stuck _ => False
  | .br e t f => (e.B ρ = true → t.holds sp ρ G) ∧ (e.B ρ = false → f.holds sp ρ G)
  | .call key ks args v0 t => eqs sp ρ key v0 (args.L ρ) 0 ks ∧ t.holds sp ρ G

/-- A contract's shape. -/
structure Sm where
  f : Nat
  key : Nat
  args : List (Bool × List CK)
  res : List (Bool × List CK)
  tup : Bool
  deriving Repr, Inhabited

structure TI where
  agg : Bool
  size : Nat
  zero : List C
  fields : List (Nat × Nat)
  arr : Option (Nat × Nat)
  ik : Option IntKind
  eqok : Bool
  isb : Bool
  deriving Repr, Inhabited

/-- What is known on a run's way. -/
structure Kw where
  pc : List (E × Bool)
  log : List (Nat × E × Nat)
  vk : List (Option IntKind)
  deriving Repr, Inhabited

structure Cx where
  ty : List (Nat × TI)
  sm : List Sm
  deriving Repr, Inhabited

def lookN {α : Type} (n : Nat) : List (Nat × α) → Option α
  | [] => none
  | (m, a) :: l => if Nat.beq m n then some a else lookN n l
theorem lookN_mem {α : Type} {n : Nat} {a : α} : ∀ {l : List (Nat × α)}, lookN n l = some a → (n, a) ∈ l
  | (m, b) :: l, h => by
    simp only [lookN] at h
    split at h
    · rename_i hm
      rw [Nat.eq_of_beq_eq_true hm]
      cases h
      exact List.mem_cons_self
    · exact List.mem_cons_of_mem _ (lookN_mem h)

/-! ### Smart expressions -/
def mkBin (op : BinOp) (k : IntKind) (a b : E) : E :=
  match a, b with
  | .lit x, .lit y => .lit (opI op k x y)
  | a, b => .bin op k a b
theorem mkBin_I (ρ : Env) (op : BinOp) (k : IntKind) (a b : E) : (mkBin op k a b).I ρ = opI op k (a.I ρ) (b.I ρ) := by
  unfold mkBin; split <;> rfl
def mkConv (k : IntKind) (a : E) : E :=
  match a with
  | .lit x => .lit (k.wrap x)
  | a => .conv k a
theorem mkConv_I (ρ : Env) (k : IntKind) (a : E) : (mkConv k a).I ρ = k.wrap (a.I ρ) := by
  unfold mkConv; split <;> rfl
def mkLt (a b : E) : E :=
  match a, b with
  | .lit x, .lit y => .tt (decide (x < y))
  | a, b => if a.same b then .tt false else .lt a b
theorem mkLt_B (ρ : Env) (a b : E) : (mkLt a b).B ρ = decide (a.I ρ < b.I ρ) := by
  unfold mkLt
  split
  · rfl
  · split
    · rename_i h
      rw [E.same_eq h]
      simp [E.B]
    · rfl
def mkEq (a b : E) : E :=
  match a, b with
  | .lit x, .lit y => .tt (zSame x y)
  | a, b => if a.same b then .tt true else .eq a b
theorem mkEq_B (ρ : Env) (a b : E) : (mkEq a b).B ρ = (a.I ρ == b.I ρ) := by
  unfold mkEq
  split
  · simp [E.B, E.I, zSame_iff]
  · split
    · rename_i h
      rw [E.same_eq h]
      simp [E.B]
    · rfl
def mkNot (a : E) : E :=
  match a with
  | .tt b => .tt (!b)
  | .not a => a
  | a => .not a
theorem mkNot_B (ρ : Env) (a : E) : (mkNot a).B ρ = !a.B ρ := by
  unfold mkNot; split <;> simp [E.B]
def mkAnd (a b : E) : E :=
  match a with
  | .tt true => b
  | .tt false => .tt false
  | a => .and a b
theorem mkAnd_B (ρ : Env) (a b : E) : (mkAnd a b).B ρ = (a.B ρ && b.B ρ) := by
  unfold mkAnd; split <;> simp [E.B]
def mkBeq (a b : E) : E :=
  match a, b with
  | .tt true, b => b
  | a, .tt true => a
  | .tt false, b => mkNot b
  | a, .tt false => mkNot a
  | a, b => if a.same b then .tt true else .beq a b
theorem mkBeq_B (ρ : Env) (a b : E) : (mkBeq a b).B ρ = (a.B ρ == b.B ρ) := by
  unfold mkBeq
  split
  · simp [E.B]
  · simp [E.B]
  · rw [mkNot_B]; simp only [E.B]; cases b.B ρ <;> rfl
  · rw [mkNot_B]; simp only [E.B]; cases a.B ρ <;> rfl
  · split
    · rename_i h
      rw [E.same_eq h]
      simp [E.B]
    · rfl
def mkMin (a b : E) : E :=
  match a, b with
  | .lit x, .lit y => .lit (min x y)
  | a, b => if a.same b then a else .mn a b
theorem mkMin_I (ρ : Env) (a b : E) : (mkMin a b).I ρ = min (a.I ρ) (b.I ρ) := by
  unfold mkMin
  split
  · rfl
  · split
    · rename_i h; rw [E.same_eq h]; omega
    · rfl
def mkMax (a b : E) : E :=
  match a, b with
  | .lit x, .lit y => .lit (max x y)
  | a, b => if a.same b then a else .mx a b
theorem mkMax_I (ρ : Env) (a b : E) : (mkMax a b).I ρ = max (a.I ρ) (b.I ρ) := by
  unfold mkMax
  split
  · rfl
  · split
    · rename_i h; rw [E.same_eq h]; omega
    · rfl

/-! ### Ranges -/
def inK (k : IntKind) (z : Int) : Bool := decide (k.min ≤ z) && decide (z ≤ k.max)
theorem inK_wf {k : IntKind} {z : Int} : (Lit.int k z).wf = inK k z := rfl
theorem inK_wrap (k : IntKind) (z : Int) : inK k (k.wrap z) = true := wf_wrap k z
theorem inK_bits (op : BinOp) (k : IntKind) (x y : Int) : inK k (bits op k x y) = true := wf_bits op k x y
theorem inK_iff {k : IntKind} {z : Int} : inK k z = true ↔ k.min ≤ z ∧ z ≤ k.max := by simp [inK]
theorem kmin_le (k : IntKind) : k.min ≤ 0 := by cases k <;> decide
theorem kmax_ge (k : IntKind) : 0 ≤ k.max := by cases k <;> decide

def E.rng (vk : List (Option IntKind)) (k : IntKind) : E → Bool
  | .lit z => inK k z
  | .var n => match vk[n]? with | some (some k') => kdSame k' k | _ => false
  | .bin op k' a _ => kdSame k' k && (match op with | .add | .sub | .mul | .quo | .shl | .and | .or | .xor | .andNot => true | .rem | .shr => a.rng vk k | _ => false)
  | .conv k' _ => kdSame k' k
  | .mn a b => a.rng vk k && b.rng vk k
  | .mx a b => a.rng vk k && b.rng vk k
  | _ => false

def Vk (ρ : Env) (vk : List (Option IntKind)) : Prop := ∀ n k, vk[n]? = some (some k) → inK k (ρ.i n) = true

theorem tmod_le (n : Nat) (b : Int) : 0 ≤ (n : Int).tmod b ∧ (n : Int).tmod b ≤ n := by
  have h2 : 0 ≤ (n : Int).tmod b := Int.tmod_nonneg _ (by omega)
  have h1 : ((n : Int).tmod b).natAbs = n % b.natAbs := by rw [Int.natAbs_tmod]; rfl
  have h3 := Nat.mod_le n b.natAbs
  have h4 := Int.natAbs_of_nonneg h2
  omega
theorem tmod_rng {a b : Int} : (0 ≤ a → 0 ≤ a.tmod b ∧ a.tmod b ≤ a) ∧ (a ≤ 0 → a ≤ a.tmod b ∧ a.tmod b ≤ 0) := by
  constructor
  · intro h
    obtain ⟨n, rfl⟩ := Int.eq_ofNat_of_zero_le h
    exact tmod_le n b
  · intro h
    obtain ⟨n, hn⟩ := Int.eq_ofNat_of_zero_le (show 0 ≤ -a by omega)
    have ha : a = -(n : Int) := by omega
    subst ha
    rw [Int.neg_tmod]
    have := tmod_le n b
    omega
theorem fdiv_rng {a : Int} {n : Nat} : (0 ≤ a → 0 ≤ a.fdiv (2 ^ n) ∧ a.fdiv (2 ^ n) ≤ a) ∧ (a ≤ 0 → a ≤ a.fdiv (2 ^ n) ∧ a.fdiv (2 ^ n) ≤ 0) := by
  have hp : (0 : Int) < 2 ^ n := Int.pow_pos (by omega)
  rw [Int.fdiv_eq_ediv_of_nonneg _ (by omega)]
  constructor
  · intro h
    exact ⟨Int.ediv_nonneg h (by omega), Int.ediv_le_self _ h⟩
  · intro h
    refine ⟨?_, Int.ediv_nonpos_of_nonpos_of_neg h hp⟩
    rw [Int.le_ediv_iff_mul_le hp]
    have h1 : (1 : Int) ≤ 2 ^ n := by omega
    have := Int.mul_le_mul_of_nonpos_left h h1
    omega

theorem E.rng_ok {ρ : Env} {vk : List (Option IntKind)} {k : IntKind} (hv : Vk ρ vk) : ∀ (e : E), e.rng vk k = true → inK k (e.I ρ) = true
  | .lit z, h => h
  | .var n, h => by
    simp only [E.rng] at h
    split at h
    · rename_i k' hk
      have := hv n k' hk
      rw [kdSame_eq h] at this
      exact this
    · cases h
  | .bin op k' a b, h => by
    simp only [E.rng, Bool.and_eq_true] at h
    obtain ⟨h1, h2⟩ := h
    have := kdSame_eq h1
    subst this
    have tail : ∀ x : Int, a.rng vk k' = true → ((0 ≤ a.I ρ → 0 ≤ x ∧ x ≤ a.I ρ) ∧ (a.I ρ ≤ 0 → a.I ρ ≤ x ∧ x ≤ 0)) → inK k' x = true := by
      intro x ha hx
      have h3 := inK_iff.1 (E.rng_ok hv a ha)
      have := kmin_le k'
      have := kmax_ge k'
      rw [inK_iff]
      by_cases h0 : 0 ≤ a.I ρ
      · have := hx.1 h0; omega
      · have := hx.2 (by omega); omega
    simp only [E.I]
    cases op <;> first
      | exact inK_wrap _ _
      | exact inK_bits _ _ _ _
      | exact tail _ h2 tmod_rng
      | exact tail _ h2 fdiv_rng
      | cases h2
  | .conv k' a, h => by
    simp only [E.rng] at h
    rw [← kdSame_eq h]
    exact inK_wrap _ _
  | .mn a b, h => by
    simp only [E.rng, Bool.and_eq_true] at h
    have h1 := inK_iff.1 (E.rng_ok hv a h.1)
    have h2 := inK_iff.1 (E.rng_ok hv b h.2)
    rw [inK_iff]
    simp only [E.I]
    omega
  | .mx a b, h => by
    simp only [E.rng, Bool.and_eq_true] at h
    have h1 := inK_iff.1 (E.rng_ok hv a h.1)
    have h2 := inK_iff.1 (E.rng_ok hv b h.2)
    rw [inK_iff]
    simp only [E.I]
    omega
  | .nil, h | .cons _ _, h | .consb _ _, h | .tt _, h | .bvar _, h | .lt _ _, h | .eq _ _, h | .not _, h | .and _ _, h | .beq _ _, h => by cases h

/-! ### Decisions -/
def Kw.look (e : E) : List (E × Bool) → Option Bool
  | [] => none
  | (x, b) :: l => if x.same e then some b else Kw.look e l

structure Good (sp : Spec) (sm : List Sm) (ρ : Env) (kw : Kw) : Prop where
  pc : ∀ p ∈ kw.pc, p.1.B ρ = p.2
  vk : Vk ρ kw.vk
  log : ∀ p ∈ kw.log, ∃ s ∈ sm, s.key = p.1 ∧ eqs sp ρ s.key p.2.2 (p.2.1.L ρ) 0 (s.res.flatMap (·.2))

theorem look_ok {ρ : Env} {e : E} {b : Bool} : ∀ {l : List (E × Bool)}, (∀ p ∈ l, p.1.B ρ = p.2) → Kw.look e l = some b → e.B ρ = b
  | (x, c) :: l, hl, h => by
    simp only [Kw.look] at h
    split at h
    · rename_i hs
      have := hl (x, c) List.mem_cons_self
      rw [← E.same_eq hs]
      cases h
      exact this
    · exact look_ok (fun p hp => hl p (List.mem_cons_of_mem _ hp)) h

/-- What the kinds' ranges decide. -/
def rngDec (vk : List (Option IntKind)) : E → Option Bool
  | .lt (.lit z) (.var n) => match vk[n]? with
    | some (some k) => if decide (k.max ≤ z) then some false else none
    | _ => none
  | .lt (.var n) (.lit z) => match vk[n]? with
    | some (some k) => if decide (z ≤ k.min) then some false else none
    | _ => none
  | _ => none
theorem rngDec_ok {ρ : Env} {vk : List (Option IntKind)} (hv : Vk ρ vk) {e : E} {b : Bool} (h : rngDec vk e = some b) : e.B ρ = b := by
  unfold rngDec at h
  split at h
  · split at h
    · rename_i k hk
      split at h
      · rename_i hz
        cases h
        have h1 := inK_iff.1 (hv _ _ hk)
        have h2 := of_decide_eq_true hz
        simp only [E.B, E.I]
        exact decide_eq_false (by omega)
      · cases h
    · cases h
  · split at h
    · rename_i k hk
      split at h
      · rename_i hz
        cases h
        have h1 := inK_iff.1 (hv _ _ hk)
        have h2 := of_decide_eq_true hz
        simp only [E.B, E.I]
        exact decide_eq_false (by omega)
      · cases h
    · cases h
  · cases h
def decA (e : E) (k : Bool → Kw → Tr) (kw : Kw) : Tr :=
  match rngDec kw.vk e with
  | some b => k b kw
  | none => match Kw.look e kw.pc with
  | some b => k b kw
  | none => .br e (k true { kw with pc := (e, true) :: kw.pc }) (k false { kw with pc := (e, false) :: kw.pc })
def decK : E → (Bool → Kw → Tr) → Kw → Tr
  | .tt b, k, kw => k b kw
  | .not a, k, kw => decK a (fun b kw => k (!b) kw) kw
  | .and a b, k, kw => decK a (fun x kw => if x then decK b k kw else k false kw) kw
  | e, k, kw => decA e k kw

section
variable {sp : Spec} {sm : List Sm} {ρ : Env} {G : V → Prop}
theorem decA_ok {e : E} {k : Bool → Kw → Tr} {kw : Kw} (h : (decA e k kw).holds sp ρ G) (hg : Good sp sm ρ kw) : ∃ kw', (k (e.B ρ) kw').holds sp ρ G ∧ Good sp sm ρ kw' := by
  unfold decA at h
  split at h
  · rename_i b hb
    rw [rngDec_ok hg.vk hb]
    exact ⟨kw, h, hg⟩
  split at h
  · rename_i b hb
    rw [look_ok hg.pc hb]
    exact ⟨kw, h, hg⟩
  · cases hb : e.B ρ with
    | true => exact ⟨_, h.1 hb, ⟨fun p hp => by
        rcases List.mem_cons.1 hp with rfl | hp
        · exact hb
        · exact hg.pc p hp, hg.vk, hg.log⟩⟩
    | false => exact ⟨_, h.2 hb, ⟨fun p hp => by
        rcases List.mem_cons.1 hp with rfl | hp
        · exact hb
        · exact hg.pc p hp, hg.vk, hg.log⟩⟩

theorem decK_ok : ∀ (e : E) (k : Bool → Kw → Tr) (kw : Kw), (decK e k kw).holds sp ρ G → Good sp sm ρ kw → ∃ kw', (k (e.B ρ) kw').holds sp ρ G ∧ Good sp sm ρ kw'
  | .tt b, k, kw, h, hg => ⟨kw, h, hg⟩
  | .not a, k, kw, h, hg => decK_ok a (fun b kw => k (!b) kw) kw h hg
  | .and a b, k, kw, h, hg => by
    obtain ⟨kw1, h1, g1⟩ := decK_ok a _ kw h hg
    simp only [E.B]
    cases ha : a.B ρ with
    | true =>
      rw [ha] at h1
      exact decK_ok b k kw1 h1 g1
    | false =>
      rw [ha] at h1
      exact ⟨kw1, h1, g1⟩
  | .lit _, k, kw, h, hg | .var _, k, kw, h, hg | .bin _ _ _ _, k, kw, h, hg | .conv _ _, k, kw, h, hg | .mn _ _, k, kw, h, hg | .mx _ _, k, kw, h, hg | .nil, k, kw, h, hg
  | .cons _ _, k, kw, h, hg | .consb _ _, k, kw, h, hg | .bvar _, k, kw, h, hg | .lt _ _, k, kw, h, hg | .eq _ _, k, kw, h, hg | .beq _ _, k, kw, h, hg => decA_ok h hg
end
end Go.Proofs.Ytcngfmhhaleoaaa
