/- Sums and differences of known bits hold the sums and differences of what they hold: by carries. No walk is in here. -/
import Derived.Test.YtkoiaadhbgccaaaKnL1
set_option linter.unusedVariables false
set_option linter.unusedSimpArgs false
namespace Go.Proofs.Ytkoiaadhbgccaaa
open Go.RowKit

theorem le_of_sub {a b : Nat} (h : ∀ j, a.testBit j = true → b.testBit j = true) : a ≤ b := by
  have : a &&& b = a := by
    apply Nat.eq_of_testBit_eq
    intro j
    rw [Nat.testBit_and]
    cases ha : a.testBit j
    · rfl
    · rw [h j ha]; rfl
  rw [← this]
  exact Nat.and_le_right
/-- The bits of x are among those of y. -/
def Sub64 (x y : BitVec 64) : Prop := ∀ i, x.getLsbD i = true → y.getLsbD i = true
theorem Sub64.mod {x y : BitVec 64} (h : Sub64 x y) (i : Nat) : x.toNat % 2 ^ i ≤ y.toNat % 2 ^ i := by
  apply le_of_sub
  intro j hj
  rw [Nat.testBit_mod_two_pow] at hj ⊢
  simp only [Bool.and_eq_true] at hj ⊢
  exact ⟨hj.1, h j hj.2⟩
theorem carry_mono {x x' y y' : BitVec 64} (hx : Sub64 x x') (hy : Sub64 y y') (i : Nat) (h : BitVec.carry i x y false = true) : BitVec.carry i x' y' false = true := by
  have h1 := hx.mod i
  have h2 := hy.mod i
  simp only [BitVec.carry, decide_eq_true_eq, Bool.toNat_false] at h ⊢
  omega
/-- What goes over from the bits below i in x - y. -/
def bor (i : Nat) (x y : BitVec 64) : Bool := decide (x.toNat % 2 ^ i < y.toNat % 2 ^ i)
theorem bor_mono {x x' y y' : BitVec 64} (hx : Sub64 x' x) (hy : Sub64 y y') (i : Nat) (h : bor i x y = true) : bor i x' y' = true := by
  have h1 := hx.mod i
  have h2 := hy.mod i
  simp only [bor, decide_eq_true_eq] at h ⊢
  omega
theorem getLsbD_sub' (x y : BitVec 64) {i : Nat} (hi : i < 64) : (x - y).getLsbD i = (x.getLsbD i ^^ (y.getLsbD i ^^ bor i x y)) := by
  have e : x = (x - y) + y := by rw [BitVec.sub_add_cancel]
  have h1 := congrArg (fun z => z.getLsbD i) e
  simp only [BitVec.getLsbD_add hi] at h1
  have hc : BitVec.carry i (x - y) y false = bor i x y := by
    have hp : 0 < 2 ^ i := Nat.two_pow_pos i
    have hd : (2 : Nat) ^ 64 = 2 ^ i * 2 ^ (64 - i) := by rw [← Nat.pow_add]; congr 1; omega
    have ht : (x - y).toNat % 2 ^ i = (x.toNat % 2 ^ i + (2 ^ i - y.toNat % 2 ^ i)) % 2 ^ i := by
      rw [BitVec.toNat_sub, hd, Nat.mod_mul_right_mod]
      have hy := y.isLt
      have hq := Nat.div_add_mod y.toNat (2 ^ i)
      have hq2 : y.toNat / 2 ^ i < 2 ^ (64 - i) := by
        rw [Nat.div_lt_iff_lt_mul hp, Nat.mul_comm, ← hd]; exact hy
      obtain ⟨k, hk⟩ : ∃ k, 2 ^ (64 - i) = y.toNat / 2 ^ i + 1 + k := ⟨2 ^ (64 - i) - (y.toNat / 2 ^ i + 1), by omega⟩
      have hlt : y.toNat % 2 ^ i < 2 ^ i := Nat.mod_lt _ hp
      have e2 : 2 ^ i * 2 ^ (64 - i) - y.toNat = (2 ^ i - y.toNat % 2 ^ i) + 2 ^ i * k := by
        rw [hk, Nat.mul_add, Nat.mul_add, Nat.mul_one]
        omega
      rw [e2]
      have hx := Nat.div_add_mod x.toNat (2 ^ i)
      rw [show 2 ^ i - y.toNat % 2 ^ i + 2 ^ i * k + x.toNat = (x.toNat % 2 ^ i + (2 ^ i - y.toNat % 2 ^ i)) + 2 ^ i * (k + x.toNat / 2 ^ i) from by rw [Nat.mul_add]; omega]
      rw [Nat.add_mul_mod_self_left]
    have hxl : x.toNat % 2 ^ i < 2 ^ i := Nat.mod_lt _ hp
    have hyl : y.toNat % 2 ^ i < 2 ^ i := Nat.mod_lt _ hp
    simp only [BitVec.carry, bor, ht, Bool.toNat_false]
    generalize 2 ^ i = d at *
    generalize x.toNat % d = r at *
    generalize y.toNat % d = s at *
    rw [decide_eq_decide]
    by_cases hrs : r < s
    · rw [Nat.mod_eq_of_lt (by omega)]; omega
    · rw [show r + (d - s) = (r - s) + d from by omega, Nat.add_mod_right, Nat.mod_eq_of_lt (by omega)]; omega
  rw [hc] at h1
  rw [h1]
  cases (x - y).getLsbD i <;> cases y.getLsbD i <;> cases bor i x y <;> rfl

/-- p is among what V, M tell. -/
def Among (V M p : BitVec 64) : Prop := ∀ i, i < 64 → (V.getLsbD i && M.getLsbD i) = false ∧ (p.getLsbD i && !M.getLsbD i) = V.getLsbD i
theorem Among.low {V M p : BitVec 64} (h : Among V M p) : Sub64 V p := by
  intro i hi
  have hl := BitVec.lt_of_getLsbD hi
  have := h i hl
  revert this
  rw [hi]
  cases M.getLsbD i <;> cases p.getLsbD i <;> simp
theorem Among.high {V M p : BitVec 64} (h : Among V M p) : Sub64 p (V ||| M) := by
  intro i hi
  have hl := BitVec.lt_of_getLsbD hi
  have := h i hl
  revert this
  rw [BitVec.getLsbD_or, hi]
  cases M.getLsbD i <;> cases V.getLsbD i <;> simp
theorem Among.at {V M p : BitVec 64} (h : Among V M p) {i : Nat} (hi : i < 64) (hm : M.getLsbD i = false) : p.getLsbD i = V.getLsbD i := by
  have := (h i hi).2
  rw [hm] at this
  simpa using this
theorem Among.or {V M p : BitVec 64} (h : Among V M p) : V + M = V ||| M := by
  apply BitVec.add_eq_or_of_and_eq_zero
  apply BitVec.eq_of_getLsbD_eq
  intro i hi
  rw [BitVec.getLsbD_and, (h i hi).1]; simp
theorem add_key {V M p W N q : BitVec 64} (h1 : Among V M p) (h2 : Among W N q) {i : Nat} (hi : i < 64) (hm : M.getLsbD i = false) (hn : N.getLsbD i = false) (he : (M + N + (V + W)).getLsbD i = (V + W).getLsbD i) :
    (p + q).getLsbD i = (V + W).getLsbD i := by
  have e : M + N + (V + W) = (V ||| M) + (W ||| N) := by rw [← h1.or, ← h2.or]; ac_rfl
  rw [e, BitVec.getLsbD_add hi, BitVec.getLsbD_add hi, BitVec.getLsbD_or, BitVec.getLsbD_or, hm, hn, Bool.or_false, Bool.or_false] at he
  have m1 := carry_mono h1.low h2.low i
  have m2 := carry_mono h1.high h2.high i
  rw [BitVec.getLsbD_add hi, BitVec.getLsbD_add hi, h1.at hi hm, h2.at hi hn]
  revert he m1 m2
  cases BitVec.carry i V W false <;> cases BitVec.carry i p q false <;> cases BitVec.carry i (V ||| M) (W ||| N) false <;> cases V.getLsbD i <;> cases W.getLsbD i <;> simp
theorem sub_key {V M p W N q : BitVec 64} (h1 : Among V M p) (h2 : Among W N q) {i : Nat} (hi : i < 64) (hm : M.getLsbD i = false) (hn : N.getLsbD i = false) (he : (V - W + M).getLsbD i = (V - W - N).getLsbD i) :
    (p - q).getLsbD i = (V - W).getLsbD i := by
  have e1 : V - W + M = (V ||| M) - W := by rw [← h1.or]; simp only [BitVec.sub_eq_add_neg]; ac_rfl
  have e2 : V - W - N = V - (W ||| N) := by rw [← h2.or]; simp only [BitVec.sub_eq_add_neg, BitVec.neg_add]; ac_rfl
  rw [e1, e2, getLsbD_sub' _ _ hi, getLsbD_sub' _ _ hi, BitVec.getLsbD_or, BitVec.getLsbD_or, hm, hn, Bool.or_false, Bool.or_false] at he
  have m1 := bor_mono (x := V ||| M) (x' := p) (y := W) (y' := q) h1.high h2.low i
  have m2 := bor_mono (x := p) (x' := V) (y := q) (y' := W ||| N) h1.low h2.high i
  have m3 := bor_mono (x := V ||| M) (x' := V) (y := W) (y' := W) (fun j hj => by rw [BitVec.getLsbD_or, hj]; rfl) (fun _ h => h) i
  have m4 := bor_mono (x := V) (x' := V) (y := W) (y' := W ||| N) (fun _ h => h) (fun j hj => by rw [BitVec.getLsbD_or, hj]; rfl) i
  rw [getLsbD_sub' _ _ hi, getLsbD_sub' _ _ hi, h1.at hi hm, h2.at hi hn]
  revert he m1 m2 m3 m4
  cases bor i V W <;> cases bor i p q <;> cases bor i (V ||| M) W <;> cases bor i V (W ||| N) <;> cases V.getLsbD i <;> cases W.getLsbD i <;> simp

theorem among_of {a : Kn} (ha : a.wf) {x : Int} (h : khas a x = true) : Among (BitVec.ofInt 64 a.v) (BitVec.ofInt 64 a.m) (BitVec.ofInt 64 x) := (khas_iff ha x).1 h
/-- Bit i of a sum that is known. -/
theorem kadd_at {a b : Kn} (ha : a.wf) (hb : b.wf) {p q : Int} (hp : khas a p = true) (hq : khas b q = true) {i : Nat} (hi : i < 64) (hm : tb (kadd a b).m i = false) :
    tb a.m i = false ∧ tb b.m i = false ∧ tb (p + q) i = tb (a.v + b.v) i := by
  have hm' : tb (bits .or .u64 (bits .or .u64 (bits .xor .u64 (IntKind.u64.wrap (a.v + b.v)) (IntKind.u64.wrap (IntKind.u64.wrap (a.m + b.m) + IntKind.u64.wrap (a.v + b.v)))) a.m) b.m) i = false := hm
  rw [tb_or, tb_or, tb_xor] at hm'
  simp only [Bool.or_eq_false_iff] at hm'
  obtain ⟨⟨h1, h2⟩, h3⟩ := hm'
  refine ⟨h2, h3, ?_⟩
  have := add_key (among_of ha hp) (among_of hb hq) hi h2 h3 (by
    unfold tb at h1
    rw [bv_wrap, bv_wrap, BitVec.ofInt_add, BitVec.ofInt_add, bv_wrap, bv_wrap, BitVec.ofInt_add, BitVec.ofInt_add] at h1
    revert h1
    cases (BitVec.ofInt 64 a.m + BitVec.ofInt 64 b.m + (BitVec.ofInt 64 a.v + BitVec.ofInt 64 b.v)).getLsbD i <;> cases (BitVec.ofInt 64 a.v + BitVec.ofInt 64 b.v).getLsbD i <;> simp)
  unfold tb
  rw [BitVec.ofInt_add, BitVec.ofInt_add]
  exact this
theorem bv_sub (x y : Int) : BitVec.ofInt 64 (x - y) = BitVec.ofInt 64 x - BitVec.ofInt 64 y := by
  rw [Int.sub_eq_add_neg, BitVec.ofInt_add, BitVec.ofInt_neg, BitVec.sub_eq_add_neg]
theorem ksub_at {a b : Kn} (ha : a.wf) (hb : b.wf) {p q : Int} (hp : khas a p = true) (hq : khas b q = true) {i : Nat} (hi : i < 64) (hm : tb (ksub a b).m i = false) :
    tb a.m i = false ∧ tb b.m i = false ∧ tb (p - q) i = tb (a.v - b.v) i := by
  have hm' : tb (bits .or .u64 (bits .or .u64 (bits .xor .u64 (IntKind.u64.wrap (IntKind.u64.wrap (a.v - b.v) + a.m)) (IntKind.u64.wrap (IntKind.u64.wrap (a.v - b.v) - b.m))) a.m) b.m) i = false := hm
  rw [tb_or, tb_or, tb_xor] at hm'
  simp only [Bool.or_eq_false_iff] at hm'
  obtain ⟨⟨h1, h2⟩, h3⟩ := hm'
  refine ⟨h2, h3, ?_⟩
  have := sub_key (among_of ha hp) (among_of hb hq) hi h2 h3 (by
    unfold tb at h1
    rw [bv_wrap, bv_wrap, BitVec.ofInt_add, bv_sub, bv_wrap, bv_sub] at h1
    revert h1
    cases (BitVec.ofInt 64 a.v - BitVec.ofInt 64 b.v + BitVec.ofInt 64 a.m).getLsbD i <;> cases (BitVec.ofInt 64 a.v - BitVec.ofInt 64 b.v - BitVec.ofInt 64 b.m).getLsbD i <;> simp)
  unfold tb
  rw [bv_sub, bv_sub]
  exact this
end Go.Proofs.Ytkoiaadhbgccaaa
