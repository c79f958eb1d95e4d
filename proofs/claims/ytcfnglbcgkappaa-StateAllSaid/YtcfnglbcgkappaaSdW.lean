/- Words of a frame's bytes, what a state holds, loads and stores of layer 10: plain definitions and laws. No walk is in here. -/
import Derived.Test.YtcfnglbcgkappaaSdA
import Derived.Test.YtcfnglbcgkappaaKnQ
import Derived.Test.YtcfnglbcgkappaaSyZd
import Derived.Test.YtcfnglbcgkappaaVrL
set_option linter.unusedVariables false
set_option linter.unusedSimpArgs false
namespace Go.Proofs.Ytcfnglbcgkappaa
open Go Go.RowKit

/-- A word of eight bytes, the lowest first. -/
def w8 (b0 b1 b2 b3 b4 b5 b6 b7 : Int) : Int := b0 + 256 * (b1 + 256 * (b2 + 256 * (b3 + 256 * (b4 + 256 * (b5 + 256 * (b6 + 256 * b7))))))
theorem inK_u8 {v : Int} (h : inK .u8 v = true) : 0 ≤ v ∧ v ≤ 255 := by
  have := inK_iff.1 h
  simpa [IntKind.min, IntKind.max, IntKind.signed, IntKind.bits] using this
theorem or_up {v b : Int} (s : Nat) (hs : s ≤ 56) (h0 : 0 ≤ v) (h1 : v < 2 ^ s) (h2 : 0 ≤ b) (h3 : b ≤ 255) : opI .or .u64 v (opI .shl .u64 b (s : Int)) = v + b * 2 ^ s := by
  obtain ⟨n, rfl⟩ := Int.eq_ofNat_of_zero_le h0
  obtain ⟨m, rfl⟩ := Int.eq_ofNat_of_zero_le h2
  have hp : 2 ^ s ≤ 2 ^ 56 := Nat.pow_le_pow_right (by omega) hs
  have hc : (2 : Int) ^ s = ((2 ^ s : Nat) : Int) := by rw [Int.natCast_pow]; rfl
  have hm : m * 2 ^ s ≤ 255 * 2 ^ 56 := Nat.mul_le_mul (by omega) hp
  have hp56 : 2 ^ 56 = 72057594037927936 := rfl
  rw [hp56] at hp hm
  have e1 : opI .shl .u64 (m : Int) (s : Int) = ((m * 2 ^ s : Nat) : Int) := by
    show IntKind.u64.wrap ((m : Int) * 2 ^ min ((s : Int)).toNat 64) = _
    rw [show min ((s : Int)).toNat 64 = s from by omega, w_u64, hc, ← Int.natCast_mul]
    exact Int.emod_eq_of_lt (by omega) (by omega)
  rw [e1, hc, ← Int.natCast_mul]
  rw [hc] at h1
  have hn : n < 2 ^ s := by omega
  show bits .or .u64 _ _ = _
  rw [u64_or_nat _ _ (by omega) (by omega)]
  have h := Nat.two_pow_add_eq_or_of_lt hn m
  rw [Nat.mul_comm m, Nat.or_comm, ← h, Int.natCast_add]
  omega
/-- The word as the program puts it together. -/
theorem word_up {b0 b1 b2 b3 b4 b5 b6 b7 : Int} (h0 : inK .u8 b0 = true) (h1 : inK .u8 b1 = true) (h2 : inK .u8 b2 = true) (h3 : inK .u8 b3 = true) (h4 : inK .u8 b4 = true) (h5 : inK .u8 b5 = true) (h6 : inK .u8 b6 = true) (h7 : inK .u8 b7 = true) :
    opI .or .u64 (opI .or .u64 (opI .or .u64 (opI .or .u64 (opI .or .u64 (opI .or .u64 (opI .or .u64 (opI .or .u64 0 (opI .shl .u64 b0 0)) (opI .shl .u64 b1 8)) (opI .shl .u64 b2 16)) (opI .shl .u64 b3 24)) (opI .shl .u64 b4 32)) (opI .shl .u64 b5 40)) (opI .shl .u64 b6 48)) (opI .shl .u64 b7 56) = w8 b0 b1 b2 b3 b4 b5 b6 b7 := by
  have g0 := inK_u8 h0
  have g1 := inK_u8 h1
  have g2 := inK_u8 h2
  have g3 := inK_u8 h3
  have g4 := inK_u8 h4
  have g5 := inK_u8 h5
  have g6 := inK_u8 h6
  have g7 := inK_u8 h7
  have e0 := or_up (v := 0) (b := b0) 0 (by omega) (by omega) (by omega) g0.1 g0.2
  have e1 := or_up (v := 0 + b0 * 2 ^ 0) (b := b1) 8 (by omega) (by omega) (by omega) g1.1 g1.2
  have e2 := or_up (v := 0 + b0 * 2 ^ 0 + b1 * 2 ^ 8) (b := b2) 16 (by omega) (by omega) (by omega) g2.1 g2.2
  have e3 := or_up (v := 0 + b0 * 2 ^ 0 + b1 * 2 ^ 8 + b2 * 2 ^ 16) (b := b3) 24 (by omega) (by omega) (by omega) g3.1 g3.2
  have e4 := or_up (v := 0 + b0 * 2 ^ 0 + b1 * 2 ^ 8 + b2 * 2 ^ 16 + b3 * 2 ^ 24) (b := b4) 32 (by omega) (by omega) (by omega) g4.1 g4.2
  have e5 := or_up (v := 0 + b0 * 2 ^ 0 + b1 * 2 ^ 8 + b2 * 2 ^ 16 + b3 * 2 ^ 24 + b4 * 2 ^ 32) (b := b5) 40 (by omega) (by omega) (by omega) g5.1 g5.2
  have e6 := or_up (v := 0 + b0 * 2 ^ 0 + b1 * 2 ^ 8 + b2 * 2 ^ 16 + b3 * 2 ^ 24 + b4 * 2 ^ 32 + b5 * 2 ^ 40) (b := b6) 48 (by omega) (by omega) (by omega) g6.1 g6.2
  have e7 := or_up (v := 0 + b0 * 2 ^ 0 + b1 * 2 ^ 8 + b2 * 2 ^ 16 + b3 * 2 ^ 24 + b4 * 2 ^ 32 + b5 * 2 ^ 40 + b6 * 2 ^ 48) (b := b7) 56 (by omega) (by omega) (by omega) g7.1 g7.2
  simp only [show ((0 : Nat) : Int) = 0 from rfl, show ((8 : Nat) : Int) = 8 from rfl, show ((16 : Nat) : Int) = 16 from rfl, show ((24 : Nat) : Int) = 24 from rfl, show ((32 : Nat) : Int) = 32 from rfl, show ((40 : Nat) : Int) = 40 from rfl, show ((48 : Nat) : Int) = 48 from rfl, show ((56 : Nat) : Int) = 56 from rfl] at e0 e1 e2 e3 e4 e5 e6 e7
  rw [e0, e1, e2, e3, e4, e5, e6, e7]
  unfold w8
  omega
theorem u8c {v : Int} (h : inK .u8 v = true) : IntKind.u64.wrap v = v := by have := inK_u8 h; rw [w_u64]; omega
/-- Is a register set? -/
def sbit (set i : Int) : Bool := opI .and .i64 (opI .shr .i64 set i) 1 == 1
structure Snap where
  r0 : Int
  r1 : Int
  r2 : Int
  r3 : Int
  r4 : Int
  r5 : Int
  r6 : Int
  r7 : Int
  r8 : Int
  r9 : Int
  r10 : Int
  set : Int
  f0 : Int
  f1 : Int
  f2 : Int
  f3 : Int
  f4 : Int
  f5 : Int
  f6 : Int
  f7 : Int
  f8 : Int
  f9 : Int
  f10 : Int
  f11 : Int
  f12 : Int
  f13 : Int
  f14 : Int
  f15 : Int
  f16 : Int
  f17 : Int
  f18 : Int
  f19 : Int
  f20 : Int
  f21 : Int
  f22 : Int
  f23 : Int
  f24 : Int
  f25 : Int
  f26 : Int
  f27 : Int
  f28 : Int
  f29 : Int
  f30 : Int
  f31 : Int
  f32 : Int
  f33 : Int
  f34 : Int
  f35 : Int
  f36 : Int
  f37 : Int
  f38 : Int
  f39 : Int
  f40 : Int
  f41 : Int
  f42 : Int
  f43 : Int
  f44 : Int
  f45 : Int
  f46 : Int
  f47 : Int
  f48 : Int
  f49 : Int
  f50 : Int
  f51 : Int
  f52 : Int
  f53 : Int
  f54 : Int
  f55 : Int
  f56 : Int
  f57 : Int
  f58 : Int
  f59 : Int
  f60 : Int
  f61 : Int
  f62 : Int
  f63 : Int
/-- A slot's number. -/
def sword (x : Snap) : Nat → Int
  | 0 => w8 x.f0 x.f1 x.f2 x.f3 x.f4 x.f5 x.f6 x.f7
  | 1 => w8 x.f8 x.f9 x.f10 x.f11 x.f12 x.f13 x.f14 x.f15
  | 2 => w8 x.f16 x.f17 x.f18 x.f19 x.f20 x.f21 x.f22 x.f23
  | 3 => w8 x.f24 x.f25 x.f26 x.f27 x.f28 x.f29 x.f30 x.f31
  | 4 => w8 x.f32 x.f33 x.f34 x.f35 x.f36 x.f37 x.f38 x.f39
  | 5 => w8 x.f40 x.f41 x.f42 x.f43 x.f44 x.f45 x.f46 x.f47
  | 6 => w8 x.f48 x.f49 x.f50 x.f51 x.f52 x.f53 x.f54 x.f55
  | 7 => w8 x.f56 x.f57 x.f58 x.f59 x.f60 x.f61 x.f62 x.f63
  | _ => 0
def rok (set i : Int) (t : Ty) (v : Int) : Bool := (t.k == 0 || sbit set i) && thold t v
theorem rok_n {set i v : Int} {t : Ty} (h : (t.k == 0) = false) (h2 : sbit set i = false) : rok set i t v = false := by unfold rok; rw [h, h2]; rfl
theorem rok_h {set i v : Int} {t : Ty} (h2 : thold t v = false) : rok set i t v = false := by unfold rok; rw [h2, Bool.and_false]
theorem rok_k {set i v : Int} {t : Ty} (h : (t.k == 0) = true) (h2 : thold t v = true) : rok set i t v = true := by unfold rok; rw [h, h2]; rfl
theorem rok_s {set i v : Int} {t : Ty} (h : sbit set i = true) (h2 : thold t v = true) : rok set i t v = true := by unfold rok; rw [h, h2, Bool.or_true]; rfl
def shas (s : Sta) (x : Snap) : Bool :=
  smay s && (rok x.set 0 s.r0 x.r0 && (rok x.set 1 s.r1 x.r1 && (rok x.set 2 s.r2 x.r2 && (rok x.set 3 s.r3 x.r3 && (rok x.set 4 s.r4 x.r4 && (rok x.set 5 s.r5 x.r5 && (rok x.set 6 s.r6 x.r6 && (rok x.set 7 s.r7 x.r7 && (rok x.set 8 s.r8 x.r8 && (rok x.set 9 s.r9 x.r9 && (rok x.set 10 s.r10 x.r10 && (thold s.s0 (sword x 0) && (thold s.s1 (sword x 1) && (thold s.s2 (sword x 2) && (thold s.s3 (sword x 3) && (thold s.s4 (sword x 4) && (thold s.s5 (sword x 5) && (thold s.s6 (sword x 6) && thold s.s7 (sword x 7)))))))))))))))))))
theorem add1 {i : Int} (h0 : -100 ≤ i) (h1 : i ≤ 100) : opI .add .i64 i 1 = i + 1 := by
  show IntKind.i64.wrap (i + 1) = _
  rw [w_i64]; omega
end Go.Proofs.Ytcfnglbcgkappaa

