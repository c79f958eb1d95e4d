/- Words of a frame's bytes, what a state holds, loads and stores of layer 10: plain definitions and laws. No walk is in here. -/
import Derived.Test.YtgfghplnankgnaaSdA
import Derived.Test.YtgfghplnankgnaaKnQ
import Derived.Test.YtgfghplnankgnaaSyZd
import Derived.Test.YtgfghplnankgnaaVrL
set_option linter.unusedVariables false
set_option linter.unusedSimpArgs false
namespace Go.Proofs.Ytgfghplnankgnaa
open Go Go.RowKit

/-- A word of eight bytes, the lowest first. -/
def w8 (b0 b1 b2 b3 b4 b5 b6 b7 : Int) : Int := b0 + 256 * (b1 + 256 * (b2 + 256 * (b3 + 256 * (b4 + 256 * (b5 + 256 * (b6 + 256 * b7))))))
theorem inK_u8 {v : Int} (h : inK .u8 v = true) : 0 ≤ v ∧ v ≤ 255 := by
  have := inK_iff.1 h
  simpa [IntKind.min, IntKind.max, IntKind.signed, IntKind.bits] using this
theorem or_up {v b : Int} (s : Nat) (hs : s ≤ 56) (h0 : 0 ≤ v) (h1 : v < 2 ^ s) (h2 : 0 ≤ b) (h3 : b ≤ 255) : opI .or .u64 v (opI .shl .u64 b (s : Int)) = v + b * 2 ^ s := by
  obtain ⟨n, rfl⟩ := Int.eq_ofNat_of_zero_le h0
  obtain ⟨m, rfl⟩ := Int.eq_ofNat_of_zero_le h2
  have hp : 2 ^ s ≤ 2 ^ 56 := Nat.pow_le_pow_right (by omega) hs
  have hc : (2 : Int) ^ s = ((2 ^ s : Nat) : Int) := by rw [Int.natCast_pow]; rfl
  have hm : m * 2 ^ s ≤ 255 * 2 ^ 56 := Nat.mul_le_mul (by omega) hp
  have hp56 : 2 ^ 56 = 72057594037927936 := rfl
  rw [hp56] at hp hm
  have e1 : opI .shl .u64 (m : Int) (s : Int) = ((m * 2 ^ s : Nat) : Int) := by
    show IntKind.u64.wrap ((m : Int) * 2 ^ min ((s : Int)).toNat 64) = _
    rw [show min ((s : Int)).toNat 64 = s from by omega, w_u64, hc, ← Int.natCast_mul]
    exact Int.emod_eq_of_lt (by omega) (by omega)
  rw [e1, hc, ← Int.natCast_mul]
  rw [hc] at h1
  have hn : n < 2 ^ s := by omega
  show bits .or .u64 _ _ = _
  rw [u64_or_nat _ _ (by omega) (by omega)]
  have h := Nat.two_pow_add_eq_or_of_lt hn m
  rw [Nat.mul_comm m, Nat.or_comm, ← h, Int.natCast_add]
  omega
theorem or_low {v b : Int} (h0 : 0 ≤ v) (h1 : v < 72057594037927936) (h2 : 0 ≤ b) (h3 : b ≤ 255) : opI .or .u64 (opI .shl .u64 v 8) b = b + 256 * v := by
  have e1 : opI .shl .u64 v 8 = v * 256 := by
    show IntKind.u64.wrap (v * 2 ^ min (8 : Int).toNat 64) = _
    rw [show min (8 : Int).toNat 64 = 8 from rfl, w_u64]; omega
  rw [e1]
  obtain ⟨n, rfl⟩ := Int.eq_ofNat_of_zero_le h0
  obtain ⟨m, rfl⟩ := Int.eq_ofNat_of_zero_le h2
  have h : 256 * n + m = 256 * n ||| m := Nat.two_pow_add_eq_or_of_lt (i := 8) (by omega) n
  show bits .or .u64 _ _ = _
  rw [show ((n : Int) * 256) = ((256 * n : Nat) : Int) from by omega, u64_or_nat _ _ (by omega) (by omega), ← h]
  omega
/-- The word as the program puts it together. -/
theorem word_up {b0 b1 b2 b3 b4 b5 b6 b7 : Int} (h0 : inK .u8 b0 = true) (h1 : inK .u8 b1 = true) (h2 : inK .u8 b2 = true) (h3 : inK .u8 b3 = true) (h4 : inK .u8 b4 = true) (h5 : inK .u8 b5 = true) (h6 : inK .u8 b6 = true) (h7 : inK .u8 b7 = true) :
    opI .or .u64 (opI .or .u64 (opI .or .u64 (opI .or .u64 (opI .or .u64 (opI .or .u64 (opI .or .u64 (opI .or .u64 0 (opI .shl .u64 b0 0)) (opI .shl .u64 b1 8)) (opI .shl .u64 b2 16)) (opI .shl .u64 b3 24)) (opI .shl .u64 b4 32)) (opI .shl .u64 b5 40)) (opI .shl .u64 b6 48)) (opI .shl .u64 b7 56) = w8 b0 b1 b2 b3 b4 b5 b6 b7 := by
  have g0 := inK_u8 h0
  have g1 := inK_u8 h1
  have g2 := inK_u8 h2
  have g3 := inK_u8 h3
  have g4 := inK_u8 h4
  have g5 := inK_u8 h5
  have g6 := inK_u8 h6
  have g7 := inK_u8 h7
  have e0 := or_up (v := 0) (b := b0) 0 (by omega) (by omega) (by omega) g0.1 g0.2
  have e1 := or_up (v := 0 + b0 * 2 ^ 0) (b := b1) 8 (by omega) (by omega) (by omega) g1.1 g1.2
  have e2 := or_up (v := 0 + b0 * 2 ^ 0 + b1 * 2 ^ 8) (b := b2) 16 (by omega) (by omega) (by omega) g2.1 g2.2
  have e3 := or_up (v := 0 + b0 * 2 ^ 0 + b1 * 2 ^ 8 + b2 * 2 ^ 16) (b := b3) 24 (by omega) (by omega) (by omega) g3.1 g3.2
  have e4 := or_up (v := 0 + b0 * 2 ^ 0 + b1 * 2 ^ 8 + b2 * 2 ^ 16 + b3 * 2 ^ 24) (b := b4) 32 (by omega) (by omega) (by omega) g4.1 g4.2
  have e5 := or_up (v := 0 + b0 * 2 ^ 0 + b1 * 2 ^ 8 + b2 * 2 ^ 16 + b3 * 2 ^ 24 + b4 * 2 ^ 32) (b := b5) 40 (by omega) (by omega) (by omega) g5.1 g5.2
  have e6 := or_up (v := 0 + b0 * 2 ^ 0 + b1 * 2 ^ 8 + b2 * 2 ^ 16 + b3 * 2 ^ 24 + b4 * 2 ^ 32 + b5 * 2 ^ 40) (b := b6) 48 (by omega) (by omega) (by omega) g6.1 g6.2
  have e7 := or_up (v := 0 + b0 * 2 ^ 0 + b1 * 2 ^ 8 + b2 * 2 ^ 16 + b3 * 2 ^ 24 + b4 * 2 ^ 32 + b5 * 2 ^ 40 + b6 * 2 ^ 48) (b := b7) 56 (by omega) (by omega) (by omega) g7.1 g7.2
  simp only [show ((0 : Nat) : Int) = 0 from rfl, show ((8 : Nat) : Int) = 8 from rfl, show ((16 : Nat) : Int) = 16 from rfl, show ((24 : Nat) : Int) = 24 from rfl, show ((32 : Nat) : Int) = 32 from rfl, show ((40 : Nat) : Int) = 40 from rfl, show ((48 : Nat) : Int) = 48 from rfl, show ((56 : Nat) : Int) = 56 from rfl] at e0 e1 e2 e3 e4 e5 e6 e7
  rw [e0, e1, e2, e3, e4, e5, e6, e7]
  unfold w8
  omega
theorem u8c {v : Int} (h : inK .u8 v = true) : IntKind.u64.wrap v = v := by have := inK_u8 h; rw [w_u64]; omega
/-- Is a register set? -/
def sbit (set i : Int) : Bool := opI .and .i64 (opI .shr .i64 set i) 1 == 1
structure Snap where
  r0 : Int
  r1 : Int
  r2 : Int
  r3 : Int
  r4 : Int
  r5 : Int
  r6 : Int
  r7 : Int
  r8 : Int
  r9 : Int
  r10 : Int
  set : Int
  f0 : Int
  f1 : Int
  f2 : Int
  f3 : Int
  f4 : Int
  f5 : Int
  f6 : Int
  f7 : Int
  f8 : Int
  f9 : Int
  f10 : Int
  f11 : Int
  f12 : Int
  f13 : Int
  f14 : Int
  f15 : Int
  f16 : Int
  f17 : Int
  f18 : Int
  f19 : Int
  f20 : Int
  f21 : Int
  f22 : Int
  f23 : Int
  f24 : Int
  f25 : Int
  f26 : Int
  f27 : Int
  f28 : Int
  f29 : Int
  f30 : Int
  f31 : Int
  f32 : Int
  f33 : Int
  f34 : Int
  f35 : Int
  f36 : Int
  f37 : Int
  f38 : Int
  f39 : Int
  f40 : Int
  f41 : Int
  f42 : Int
  f43 : Int
  f44 : Int
  f45 : Int
  f46 : Int
  f47 : Int
  f48 : Int
  f49 : Int
  f50 : Int
  f51 : Int
  f52 : Int
  f53 : Int
  f54 : Int
  f55 : Int
  f56 : Int
  f57 : Int
  f58 : Int
  f59 : Int
  f60 : Int
  f61 : Int
  f62 : Int
  f63 : Int
/-- A slot's number. -/
def sword (x : Snap) : Nat → Int
  | 0 => w8 x.f0 x.f1 x.f2 x.f3 x.f4 x.f5 x.f6 x.f7
  | 1 => w8 x.f8 x.f9 x.f10 x.f11 x.f12 x.f13 x.f14 x.f15
  | 2 => w8 x.f16 x.f17 x.f18 x.f19 x.f20 x.f21 x.f22 x.f23
  | 3 => w8 x.f24 x.f25 x.f26 x.f27 x.f28 x.f29 x.f30 x.f31
  | 4 => w8 x.f32 x.f33 x.f34 x.f35 x.f36 x.f37 x.f38 x.f39
  | 5 => w8 x.f40 x.f41 x.f42 x.f43 x.f44 x.f45 x.f46 x.f47
  | 6 => w8 x.f48 x.f49 x.f50 x.f51 x.f52 x.f53 x.f54 x.f55
  | 7 => w8 x.f56 x.f57 x.f58 x.f59 x.f60 x.f61 x.f62 x.f63
  | _ => 0
def rok (set i : Int) (t : Ty) (v : Int) : Bool := (t.k == 0 || sbit set i) && thold t v
theorem rok_n {set i v : Int} {t : Ty} (h : (t.k == 0) = false) (h2 : sbit set i = false) : rok set i t v = false := by unfold rok; rw [h, h2]; rfl
theorem rok_h {set i v : Int} {t : Ty} (h2 : thold t v = false) : rok set i t v = false := by unfold rok; rw [h2, Bool.and_false]
theorem rok_k {set i v : Int} {t : Ty} (h : (t.k == 0) = true) (h2 : thold t v = true) : rok set i t v = true := by unfold rok; rw [h, h2]; rfl
theorem rok_s {set i v : Int} {t : Ty} (h : sbit set i = true) (h2 : thold t v = true) : rok set i t v = true := by unfold rok; rw [h, h2, Bool.or_true]; rfl
def shas (s : Sta) (x : Snap) : Bool :=
  smay s && (rok x.set 0 s.r0 x.r0 && (rok x.set 1 s.r1 x.r1 && (rok x.set 2 s.r2 x.r2 && (rok x.set 3 s.r3 x.r3 && (rok x.set 4 s.r4 x.r4 && (rok x.set 5 s.r5 x.r5 && (rok x.set 6 s.r6 x.r6 && (rok x.set 7 s.r7 x.r7 && (rok x.set 8 s.r8 x.r8 && (rok x.set 9 s.r9 x.r9 && (rok x.set 10 s.r10 x.r10 && (thold s.s0 (sword x 0) && (thold s.s1 (sword x 1) && (thold s.s2 (sword x 2) && (thold s.s3 (sword x 3) && (thold s.s4 (sword x 4) && (thold s.s5 (sword x 5) && (thold s.s6 (sword x 6) && thold s.s7 (sword x 7)))))))))))))))))))
/-- May an access be? -/
def smac (s : Sta) (lo hi size : Int) : Bool := (size == 1 || (size == 2 || (size == 4 || size == 8))) && (decide (0 ≤ lo) && (decide (lo ≤ hi) && (decide (hi ≤ opI .sub .i64 64 size) && smay s)))
/-- Is it one slot's? -/
def sone (lo hi size : Int) : Bool := (size == 8) && ((lo == hi) && (opI .rem .i64 lo 8 == 0))
def sslot (s : Sta) (n : Int) : Ty := if n = 0 then s.s0 else if n = 1 then s.s1 else if n = 2 then s.s2 else if n = 3 then s.s3 else if n = 4 then s.s4 else if n = 5 then s.s5 else if n = 6 then s.s6 else s.s7
def sload (s : Sta) (lo hi size : Int) : Ty := if smac s lo hi size = true then (if sone lo hi size = true then sslot s (opI .quo .i64 lo 8) else ty 1 (vbyt size) 0 0) else tnil
def slerr (s : Sta) (lo hi size : Int) : Int := if smac s lo hi size = true then 0 else 2
/-- A state with other slots. -/
def sput (s : Sta) (p : Int → Bool) (t : Ty) : Sta := { s with s0 := if p 0 = true then t else s.s0, s1 := if p 1 = true then t else s.s1, s2 := if p 2 = true then t else s.s2, s3 := if p 3 = true then t else s.s3, s4 := if p 4 = true then t else s.s4, s5 := if p 5 = true then t else s.s5, s6 := if p 6 = true then t else s.s6, s7 := if p 7 = true then t else s.s7 }
def sstore (s : Sta) (lo hi size : Int) (t : Ty) : Sta :=
  if smac s lo hi size = true ∧ tset t = true then (if sone lo hi size = true then sput s (fun k => k == opI .quo .i64 lo 8) t else sput s (fun k => decide (lo < 8 * k + 8) && decide (8 * k < hi + size)) tscal) else snil
def sserr (s : Sta) (lo hi size : Int) (t : Ty) : Int := if smac s lo hi size = true ∧ tset t = true then 0 else 2
theorem smac_bd {s : Sta} {lo hi size : Int} (h : smac s lo hi size = true) : smay s = true ∧ 0 ≤ lo ∧ lo ≤ hi ∧ hi + size ≤ 64 ∧ (size = 1 ∨ size = 2 ∨ size = 4 ∨ size = 8) := by
  unfold smac at h
  simp only [Bool.and_eq_true, Bool.or_eq_true, beq_iff_eq, decide_eq_true_eq] at h
  obtain ⟨h1, h2, h3, h4, h5⟩ := h
  have e : opI .sub .i64 64 size = 64 - size := by show IntKind.i64.wrap (64 - size) = _; rw [w_i64]; omega
  rw [e] at h4
  exact ⟨h5, h2, h3, by omega, by omega⟩
theorem quo8 {i : Int} (h0 : 0 ≤ i) (h1 : i ≤ 64) : opI .quo .i64 i 8 = i / 8 := by
  show IntKind.i64.wrap (i.tdiv 8) = _
  rw [Int.tdiv_eq_ediv_of_nonneg h0, w_i64]; omega
theorem add1 {i : Int} (h0 : -100 ≤ i) (h1 : i ≤ 100) : opI .add .i64 i 1 = i + 1 := by
  show IntKind.i64.wrap (i + 1) = _
  rw [w_i64]; omega
theorem last8 {s : Sta} {lo hi size : Int} (h : smac s lo hi size = true) : opI .quo .i64 (opI .sub .i64 (opI .add .i64 hi size) 1) 8 = (hi + size - 1) / 8 ∧ opI .add .i64 hi size = hi + size := by
  obtain ⟨-, h1, h2, h3, h4⟩ := smac_bd h
  have e1 : opI .add .i64 hi size = hi + size := by show IntKind.i64.wrap (hi + size) = _; rw [w_i64]; omega
  have e2 : opI .sub .i64 (hi + size) 1 = hi + size - 1 := by show IntKind.i64.wrap (hi + size - 1) = _; rw [w_i64]; omega
  rw [e1, e2]
  exact ⟨quo8 (by omega) (by omega), rfl⟩
theorem sload_no {s : Sta} {lo hi size : Int} (h : smac s lo hi size = false) : sload s lo hi size = tnil ∧ slerr s lo hi size = 2 := by unfold sload slerr; rw [h]; exact ⟨rfl, rfl⟩
theorem sload_some {s : Sta} {lo hi size : Int} (h : smac s lo hi size = true) (h1 : sone lo hi size = false) : sload s lo hi size = ty 1 (vbyt size) 0 0 ∧ slerr s lo hi size = 0 := by unfold sload slerr; rw [h, h1]; exact ⟨rfl, rfl⟩
theorem sload_one {s : Sta} {lo hi size : Int} (h : smac s lo hi size = true) (h1 : sone lo hi size = true) : sload s lo hi size = sslot s (opI .quo .i64 lo 8) ∧ slerr s lo hi size = 0 := by unfold sload slerr; rw [h, h1]; exact ⟨rfl, rfl⟩
theorem sone_bd {s : Sta} {lo hi size : Int} (h : smac s lo hi size = true) : opI .quo .i64 lo 8 = lo / 8 ∧ 0 ≤ lo / 8 ∧ lo / 8 ≤ 7 := by
  obtain ⟨-, h1, h2, h3, h4⟩ := smac_bd h
  exact ⟨quo8 (by omega) (by omega), by omega, by omega⟩
theorem pick_no {s : Sta} {lo hi size : Int} {n : Int} (h : smac s lo hi size = true) (hn : n = opI .quo .i64 lo 8) (h0 : (n == 0) = false) (h1 : (n == 1) = false) (h2 : (n == 2) = false) (h3 : (n == 3) = false) (h4 : (n == 4) = false) (h5 : (n == 5) = false) (h6 : (n == 6) = false) (h7 : (n == 7) = false) : False := by
  obtain ⟨e, a, b⟩ := sone_bd h
  rw [e] at hn
  simp only [beq_eq_false_iff_ne] at h0 h1 h2 h3 h4 h5 h6 h7
  omega
theorem smac_lo {s : Sta} {lo hi size : Int} (h : decide (lo < 0) = true) : smac s lo hi size = false := by
  have := of_decide_eq_true h
  unfold smac; rw [show decide (0 ≤ lo) = false from decide_eq_false (by omega)]; simp only [Bool.false_and, Bool.and_false]
theorem smac_hi {s : Sta} {lo hi size : Int} (h : decide (hi < lo) = true) : smac s lo hi size = false := by
  have := of_decide_eq_true h
  unfold smac; rw [show decide (lo ≤ hi) = false from decide_eq_false (by omega)]; simp only [Bool.false_and, Bool.and_false]
theorem smac_far {s : Sta} {lo hi size : Int} (h : decide (opI .sub .i64 64 size < hi) = true) : smac s lo hi size = false := by
  have := of_decide_eq_true h
  unfold smac; rw [show decide (hi ≤ opI .sub .i64 64 size) = false from decide_eq_false (by omega)]; simp only [Bool.false_and, Bool.and_false]
theorem smac_size {s : Sta} {lo hi size : Int} (h1 : (size == 1) = false) (h2 : (size == 2) = false) (h3 : (size == 4) = false) (h4 : (size == 8) = false) : smac s lo hi size = false := by
  unfold smac; rw [h1, h2, h3, h4]; rfl
theorem smac_is {s : Sta} {lo hi size : Int} (hz : (size == 1) = true ∨ (size == 2) = true ∨ (size == 4) = true ∨ (size == 8) = true) (h1 : decide (lo < 0) = false) (h2 : decide (hi < lo) = false) : smac s lo hi size = (!decide (opI .sub .i64 64 size < hi) && smay s) := by
  have := of_decide_eq_false h1
  have := of_decide_eq_false h2
  unfold smac
  rw [show (size == 1 || (size == 2 || (size == 4 || size == 8))) = true from by rcases hz with h | h | h | h <;> simp [h], show decide (0 ≤ lo) = true from decide_eq_true (by omega), show decide (lo ≤ hi) = true from decide_eq_true (by omega), show decide (hi ≤ opI .sub .i64 64 size) = !decide (opI .sub .i64 64 size < hi) from by rw [Bool.eq_iff_iff]; simp]
  rfl
theorem sone_n1 {lo hi size : Int} (h1 : (size == 8) = false) : sone lo hi size = false := by unfold sone; rw [h1]; rfl
theorem sone_n2 {lo hi size : Int} (h2 : (lo == hi) = false) : sone lo hi size = false := by unfold sone; rw [h2, Bool.false_and, Bool.and_false]
theorem sput_congr {s : Sta} {p q : Int → Bool} {t : Ty} (h : ∀ k : Int, 0 ≤ k → k ≤ 7 → p k = q k) : sput s p t = sput s q t := by
  unfold sput
  rw [h 0 (by omega) (by omega), h 1 (by omega) (by omega), h 2 (by omega) (by omega), h 3 (by omega) (by omega), h 4 (by omega) (by omega), h 5 (by omega) (by omega), h 6 (by omega) (by omega), h 7 (by omega) (by omega)]
theorem sput_none {s : Sta} {p : Int → Bool} {t : Ty} (h : ∀ k : Int, 0 ≤ k → k ≤ 7 → p k = false) : sput s p t = s := by
  rw [sput_congr (q := fun _ => false) h]; rfl
def slotD (s : Sta) : List Dt := [.z s.s0.k, .z s.s0.ul, .z s.s0.uh, .z s.s0.sl, .z s.s0.sh, .z s.s0.v, .z s.s0.m, .z s.s0.lo, .z s.s0.hi, .z s.s1.k, .z s.s1.ul, .z s.s1.uh, .z s.s1.sl, .z s.s1.sh, .z s.s1.v, .z s.s1.m, .z s.s1.lo, .z s.s1.hi, .z s.s2.k, .z s.s2.ul, .z s.s2.uh, .z s.s2.sl, .z s.s2.sh, .z s.s2.v, .z s.s2.m, .z s.s2.lo, .z s.s2.hi, .z s.s3.k, .z s.s3.ul, .z s.s3.uh, .z s.s3.sl, .z s.s3.sh, .z s.s3.v, .z s.s3.m, .z s.s3.lo, .z s.s3.hi, .z s.s4.k, .z s.s4.ul, .z s.s4.uh, .z s.s4.sl, .z s.s4.sh, .z s.s4.v, .z s.s4.m, .z s.s4.lo, .z s.s4.hi, .z s.s5.k, .z s.s5.ul, .z s.s5.uh, .z s.s5.sl, .z s.s5.sh, .z s.s5.v, .z s.s5.m, .z s.s5.lo, .z s.s5.hi, .z s.s6.k, .z s.s6.ul, .z s.s6.uh, .z s.s6.sl, .z s.s6.sh, .z s.s6.v, .z s.s6.m, .z s.s6.lo, .z s.s6.hi, .z s.s7.k, .z s.s7.ul, .z s.s7.uh, .z s.s7.sl, .z s.s7.sh, .z s.s7.v, .z s.s7.m, .z s.s7.lo, .z s.s7.hi]
/-- The slots from one on, below another one. -/
def pbet (a b : Int) (k : Int) : Bool := decide (a ≤ k) && decide (k < b)
theorem sput_at0 {s : Sta} {p q : Int → Bool} {t : Ty} (h : ∀ k : Int, 0 ≤ k → k ≤ 7 → q k = (p k || (k == 0))) : sput s q t = { sput s p t with s0 := t } := by
  unfold sput
  simp only [h 0 (by omega) (by omega), show q 1 = p 1 from by rw [h 1 (by omega) (by omega)]; exact Bool.or_false _, show q 2 = p 2 from by rw [h 2 (by omega) (by omega)]; exact Bool.or_false _, show q 3 = p 3 from by rw [h 3 (by omega) (by omega)]; exact Bool.or_false _, show q 4 = p 4 from by rw [h 4 (by omega) (by omega)]; exact Bool.or_false _, show q 5 = p 5 from by rw [h 5 (by omega) (by omega)]; exact Bool.or_false _, show q 6 = p 6 from by rw [h 6 (by omega) (by omega)]; exact Bool.or_false _, show q 7 = p 7 from by rw [h 7 (by omega) (by omega)]; exact Bool.or_false _]
  simp
theorem sput_at1 {s : Sta} {p q : Int → Bool} {t : Ty} (h : ∀ k : Int, 0 ≤ k → k ≤ 7 → q k = (p k || (k == 1))) : sput s q t = { sput s p t with s1 := t } := by
  unfold sput
  simp only [h 1 (by omega) (by omega), show q 0 = p 0 from by rw [h 0 (by omega) (by omega)]; exact Bool.or_false _, show q 2 = p 2 from by rw [h 2 (by omega) (by omega)]; exact Bool.or_false _, show q 3 = p 3 from by rw [h 3 (by omega) (by omega)]; exact Bool.or_false _, show q 4 = p 4 from by rw [h 4 (by omega) (by omega)]; exact Bool.or_false _, show q 5 = p 5 from by rw [h 5 (by omega) (by omega)]; exact Bool.or_false _, show q 6 = p 6 from by rw [h 6 (by omega) (by omega)]; exact Bool.or_false _, show q 7 = p 7 from by rw [h 7 (by omega) (by omega)]; exact Bool.or_false _]
  simp
theorem sput_at2 {s : Sta} {p q : Int → Bool} {t : Ty} (h : ∀ k : Int, 0 ≤ k → k ≤ 7 → q k = (p k || (k == 2))) : sput s q t = { sput s p t with s2 := t } := by
  unfold sput
  simp only [h 2 (by omega) (by omega), show q 0 = p 0 from by rw [h 0 (by omega) (by omega)]; exact Bool.or_false _, show q 1 = p 1 from by rw [h 1 (by omega) (by omega)]; exact Bool.or_false _, show q 3 = p 3 from by rw [h 3 (by omega) (by omega)]; exact Bool.or_false _, show q 4 = p 4 from by rw [h 4 (by omega) (by omega)]; exact Bool.or_false _, show q 5 = p 5 from by rw [h 5 (by omega) (by omega)]; exact Bool.or_false _, show q 6 = p 6 from by rw [h 6 (by omega) (by omega)]; exact Bool.or_false _, show q 7 = p 7 from by rw [h 7 (by omega) (by omega)]; exact Bool.or_false _]
  simp
theorem sput_at3 {s : Sta} {p q : Int → Bool} {t : Ty} (h : ∀ k : Int, 0 ≤ k → k ≤ 7 → q k = (p k || (k == 3))) : sput s q t = { sput s p t with s3 := t } := by
  unfold sput
  simp only [h 3 (by omega) (by omega), show q 0 = p 0 from by rw [h 0 (by omega) (by omega)]; exact Bool.or_false _, show q 1 = p 1 from by rw [h 1 (by omega) (by omega)]; exact Bool.or_false _, show q 2 = p 2 from by rw [h 2 (by omega) (by omega)]; exact Bool.or_false _, show q 4 = p 4 from by rw [h 4 (by omega) (by omega)]; exact Bool.or_false _, show q 5 = p 5 from by rw [h 5 (by omega) (by omega)]; exact Bool.or_false _, show q 6 = p 6 from by rw [h 6 (by omega) (by omega)]; exact Bool.or_false _, show q 7 = p 7 from by rw [h 7 (by omega) (by omega)]; exact Bool.or_false _]
  simp
theorem sput_at4 {s : Sta} {p q : Int → Bool} {t : Ty} (h : ∀ k : Int, 0 ≤ k → k ≤ 7 → q k = (p k || (k == 4))) : sput s q t = { sput s p t with s4 := t } := by
  unfold sput
  simp only [h 4 (by omega) (by omega), show q 0 = p 0 from by rw [h 0 (by omega) (by omega)]; exact Bool.or_false _, show q 1 = p 1 from by rw [h 1 (by omega) (by omega)]; exact Bool.or_false _, show q 2 = p 2 from by rw [h 2 (by omega) (by omega)]; exact Bool.or_false _, show q 3 = p 3 from by rw [h 3 (by omega) (by omega)]; exact Bool.or_false _, show q 5 = p 5 from by rw [h 5 (by omega) (by omega)]; exact Bool.or_false _, show q 6 = p 6 from by rw [h 6 (by omega) (by omega)]; exact Bool.or_false _, show q 7 = p 7 from by rw [h 7 (by omega) (by omega)]; exact Bool.or_false _]
  simp
theorem sput_at5 {s : Sta} {p q : Int → Bool} {t : Ty} (h : ∀ k : Int, 0 ≤ k → k ≤ 7 → q k = (p k || (k == 5))) : sput s q t = { sput s p t with s5 := t } := by
  unfold sput
  simp only [h 5 (by omega) (by omega), show q 0 = p 0 from by rw [h 0 (by omega) (by omega)]; exact Bool.or_false _, show q 1 = p 1 from by rw [h 1 (by omega) (by omega)]; exact Bool.or_false _, show q 2 = p 2 from by rw [h 2 (by omega) (by omega)]; exact Bool.or_false _, show q 3 = p 3 from by rw [h 3 (by omega) (by omega)]; exact Bool.or_false _, show q 4 = p 4 from by rw [h 4 (by omega) (by omega)]; exact Bool.or_false _, show q 6 = p 6 from by rw [h 6 (by omega) (by omega)]; exact Bool.or_false _, show q 7 = p 7 from by rw [h 7 (by omega) (by omega)]; exact Bool.or_false _]
  simp
theorem sput_at6 {s : Sta} {p q : Int → Bool} {t : Ty} (h : ∀ k : Int, 0 ≤ k → k ≤ 7 → q k = (p k || (k == 6))) : sput s q t = { sput s p t with s6 := t } := by
  unfold sput
  simp only [h 6 (by omega) (by omega), show q 0 = p 0 from by rw [h 0 (by omega) (by omega)]; exact Bool.or_false _, show q 1 = p 1 from by rw [h 1 (by omega) (by omega)]; exact Bool.or_false _, show q 2 = p 2 from by rw [h 2 (by omega) (by omega)]; exact Bool.or_false _, show q 3 = p 3 from by rw [h 3 (by omega) (by omega)]; exact Bool.or_false _, show q 4 = p 4 from by rw [h 4 (by omega) (by omega)]; exact Bool.or_false _, show q 5 = p 5 from by rw [h 5 (by omega) (by omega)]; exact Bool.or_false _, show q 7 = p 7 from by rw [h 7 (by omega) (by omega)]; exact Bool.or_false _]
  simp
theorem sput_at7 {s : Sta} {p q : Int → Bool} {t : Ty} (h : ∀ k : Int, 0 ≤ k → k ≤ 7 → q k = (p k || (k == 7))) : sput s q t = { sput s p t with s7 := t } := by
  unfold sput
  simp only [h 7 (by omega) (by omega), show q 0 = p 0 from by rw [h 0 (by omega) (by omega)]; exact Bool.or_false _, show q 1 = p 1 from by rw [h 1 (by omega) (by omega)]; exact Bool.or_false _, show q 2 = p 2 from by rw [h 2 (by omega) (by omega)]; exact Bool.or_false _, show q 3 = p 3 from by rw [h 3 (by omega) (by omega)]; exact Bool.or_false _, show q 4 = p 4 from by rw [h 4 (by omega) (by omega)]; exact Bool.or_false _, show q 5 = p 5 from by rw [h 5 (by omega) (by omega)]; exact Bool.or_false _, show q 6 = p 6 from by rw [h 6 (by omega) (by omega)]; exact Bool.or_false _]
  simp
theorem sstore_no {s : Sta} {lo hi size : Int} {t : Ty} (h : smac s lo hi size = false ∨ tset t = false) : sstore s lo hi size t = snil ∧ sserr s lo hi size t = 2 := by
  have : ¬ (smac s lo hi size = true ∧ tset t = true) := by rcases h with h | h <;> simp [h]
  exact ⟨by unfold sstore; rw [if_neg this], by unfold sserr; rw [if_neg this]⟩
theorem sstore_one {s : Sta} {lo hi size : Int} {t : Ty} (h : smac s lo hi size = true) (ht : tset t = true) (h1 : sone lo hi size = true) : sstore s lo hi size t = sput s (fun k => k == opI .quo .i64 lo 8) t ∧ sserr s lo hi size t = 0 := by
  exact ⟨by unfold sstore; rw [if_pos ⟨h, ht⟩, if_pos h1], by unfold sserr; rw [if_pos ⟨h, ht⟩]⟩
theorem sstore_some {s : Sta} {lo hi size : Int} {t : Ty} (h : smac s lo hi size = true) (ht : tset t = true) (h1 : sone lo hi size = false) : sstore s lo hi size t = sput s (fun k => decide (lo < 8 * k + 8) && decide (8 * k < hi + size)) tscal ∧ sserr s lo hi size t = 0 := by
  exact ⟨by unfold sstore; rw [if_pos ⟨h, ht⟩, if_neg (by rw [h1]; simp)], by unfold sserr; rw [if_pos ⟨h, ht⟩]⟩
theorem tset_k {t : Ty} (h : (t.k == 0) = true) : tset t = false := by unfold tset; rw [h, Bool.not_true, Bool.and_false]
theorem tset_t {t : Ty} (h : tok t = false) : tset t = false := by unfold tset; rw [h, Bool.false_and]
theorem tset_y {t : Ty} (h : (t.k == 0) = false) (h2 : tok t = true) : tset t = true := by unfold tset; rw [h, h2]; rfl
/-- At the loops' ends. -/
theorem end_bet {s : Sta} {lo hi size n : Int} (h : smac s lo hi size = true) (h1 : n ≤ (hi + size - 1) / 8 + 1) (h2 : (hi + size - 1) / 8 < n) : sput s (pbet (lo / 8) n) tscal = sput s (fun k => decide (lo < 8 * k + 8) && decide (8 * k < hi + size)) tscal := by
  obtain ⟨-, g1, g2, g3, g4⟩ := smac_bd h
  refine sput_congr fun k k0 k1 => ?_
  unfold pbet
  rw [Bool.eq_iff_iff]
  simp only [Bool.and_eq_true, decide_eq_true_eq]
  omega
theorem bet_step {a n k : Int} (hn : a ≤ n) : pbet a (n + 1) k = (pbet a n k || (k == n)) := by
  unfold pbet
  rw [Bool.eq_iff_iff]
  simp only [Bool.and_eq_true, Bool.or_eq_true, decide_eq_true_eq, beq_iff_eq]
  omega
end Go.Proofs.Ytgfghplnankgnaa

