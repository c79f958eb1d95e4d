/- Memories of four regions: bytes put, and read again. No walk is in here. -/
import Derived.Test.YtmabagpagmcnlaaMmD
import Derived.Test.YtmabagpagmcnlaaMmF
set_option linter.unusedSimpArgs false
set_option linter.unusedVariables false
set_option linter.unusedVariables false
set_option linter.unusedSimpArgs false
namespace Go.Proofs.Ytmabagpagmcnlaa
open Go Go.RowKit

/-- The memory of the acts. -/
def memB (y c f s : List (List Int)) : Mem := ⟨1048576, y, false, 2097152, c, true, 3145728, f, true, 4194304, s, true⟩
/-- A number's k-th byte, as it is stored. -/
def byteK (v : Int) (k : Nat) : Int := IntKind.u8.wrap (opI .shr .u64 v (opI .mul .i64 8 (k : Int)))
/-- The first k bytes of a number put from place o on. -/
def putL (l : List (List Int)) (o : Nat) (v : Int) : Nat → List (List Int)
  | 0 => l
  | k + 1 => st (putL l o v k) ((o + k : Nat) : Int) 0 (byteK v k)
theorem putL_len (l : List (List Int)) (o : Nat) (v : Int) : ∀ k, (putL l o v k).length = l.length
  | 0 => rfl
  | k + 1 => by rw [putL, st_length', putL_len l o v k]
theorem gt_st {l : List (List Int)} (hr : RowsIn [some .u8] l) {i : Nat} (hi : i < l.length) (x : Int) (j : Nat) : gt (st l (i : Int) 0 x) (j : Int) 0 = if j = i then x else gt l (j : Int) 0 := by
  unfold gt st
  simp only [Int.toNat_natCast]
  rw [List.getD_eq_getElem?_getD (l := List.set _ _ _), List.getElem?_set]
  by_cases h : i = j
  · subst h
    rw [if_pos rfl, if_pos hi, if_pos rfl, Option.getD_some, List.getD_eq_getElem?_getD (l := l), List.getElem?_eq_getElem hi, Option.getD_some]
    obtain ⟨z, hz, _, _⟩ := byte_of hr (List.getElem_mem hi)
    rw [hz]; rfl
  · rw [if_neg h, if_neg (Ne.symm h), ← List.getD_eq_getElem?_getD]
theorem byteK_in (v : Int) (k : Nat) : inK .u8 (byteK v k) = true := inK_wrap _ _
theorem putL_rows {l : List (List Int)} (hr : RowsIn [some .u8] l) (o : Nat) (v : Int) : ∀ k, RowsIn [some .u8] (putL l o v k)
  | 0 => hr
  | k + 1 => st_rows (ks := [some .u8]) (c := 0) rfl (byteK_in v k) (putL_rows hr o v k) _
theorem gt_putL {l : List (List Int)} (hr : RowsIn [some .u8] l) (o : Nat) (v : Int) (j : Nat) : ∀ k, o + k ≤ l.length → gt (putL l o v k) (j : Int) 0 = if o ≤ j ∧ j < o + k then byteK v (j - o) else gt l (j : Int) 0
  | 0, _ => by rw [if_neg (by omega)]; rfl
  | k + 1, h => by
    rw [putL, gt_st (putL_rows hr o v k) (by rw [putL_len]; omega), gt_putL hr o v j k (by omega)]
    by_cases h1 : j = o + k
    · rw [if_pos h1, if_pos (by omega), h1, Nat.add_sub_cancel_left]
    · rw [if_neg h1]
      by_cases h2 : o ≤ j ∧ j < o + k
      · rw [if_pos h2, if_pos (by omega)]
      · rw [if_neg h2, if_neg (by omega)]
theorem rd_one {m : Mem} (hf : m.Lim) {b : Int} {l : List (List Int)} {a : Int} (h : m.Row b l) (hi : inr b l a 1 = true) : rdE m a 1 = 0 ∧ rdV m a 1 = gt l (a - b) 0 := by
  obtain ⟨h1, h2⟩ := rd_row hf h hi rfl
  refine ⟨h1, ?_⟩
  rw [h2]
  have hi' := inr_iff.1 hi
  have hl : (a - b).toNat < l.length := by omega
  unfold winL gt
  rw [List.getD_eq_getElem?_getD (l := l), List.getElem?_eq_getElem hl, List.drop_eq_getElem_cons hl]
  show numL (List.take 1 _) = _
  rw [List.take_succ_cons, List.take_zero, numL, numL]
  show _ + 256 * 0 = _
  rw [Int.mul_zero, Int.add_zero]
  rfl
theorem rdE_one {m : Mem} {a : Int} (h : ¬ ∃ b l, m.Row b l ∧ inr b l a 1 = true) : rdE m a 1 = 20 := by
  have h0 : inr m.b0 m.l0 a 1 = false := Bool.eq_false_iff.2 fun hh => h ⟨_, _, .inl ⟨rfl, rfl⟩, hh⟩
  have h1 : inr m.b1 m.l1 a 1 = false := Bool.eq_false_iff.2 fun hh => h ⟨_, _, .inr (.inl ⟨rfl, rfl⟩), hh⟩
  have h2 : inr m.b2 m.l2 a 1 = false := Bool.eq_false_iff.2 fun hh => h ⟨_, _, .inr (.inr (.inl ⟨rfl, rfl⟩)), hh⟩
  have h3 : inr m.b3 m.l3 a 1 = false := Bool.eq_false_iff.2 fun hh => h ⟨_, _, .inr (.inr (.inr ⟨rfl, rfl⟩)), hh⟩
  simp [rdE, sized, Mem.reg, h0, h1, h2, h3]
/-- The limits of the acts' memory. -/
structure LimB (X : Nat) (y c f s : List (List Int)) : Prop where
  x : X ≤ 256
  y : y.length ≤ 16384
  c : c.length = X
  f : f.length = 64
  s : s.length = 264
theorem LimB.fit {X : Nat} {y c f s : List (List Int)} (h : LimB X y c f s) : (memB y c f s).fit := ⟨rfl, rfl, rfl, rfl, rfl, rfl, rfl, rfl, h.y, by have := h.c; have := h.x; show c.length ≤ 256; omega, h.f, by have := h.s; show s.length ≤ 264; omega⟩
theorem rgn_cases (a : Int) {X Y : Nat} (hx : X ≤ 256) (hy : Y ≤ 16384) : (rgn a X Y true = 1 ∧ 1048576 ≤ a ∧ a < 1048576 + Y) ∨ (rgn a X Y true = 2 ∧ 2097152 ≤ a ∧ a < 2097152 + X) ∨ (rgn a X Y true = 3 ∧ 3145728 ≤ a ∧ a < 3145792) ∨ (rgn a X Y true = 4 ∧ 4194304 ≤ a ∧ a < 4194568) ∨
    (rgn a X Y true = 0 ∧ ¬ (1048576 ≤ a ∧ a < 1048576 + (Y : Int)) ∧ ¬ (2097152 ≤ a ∧ a < 2097152 + (X : Int)) ∧ ¬ (3145728 ≤ a ∧ a < 3145792) ∧ ¬ (4194304 ≤ a ∧ a < 4194568)) := by
  have e1 : min (max (Y : Int) 0) 16384 = Y := by omega
  have e2 : min (max (X : Int) 0) 256 = X := by omega
  unfold rgn
  rw [e1, e2]
  simp only [and_true]
  split
  · exact .inl ⟨rfl, by assumption⟩
  · split
    · exact .inr (.inl ⟨rfl, by assumption⟩)
    · split
      · exact .inr (.inr (.inl ⟨rfl, by assumption⟩))
      · split
        · exact .inr (.inr (.inr (.inl ⟨rfl, by assumption⟩)))
        · exact .inr (.inr (.inr (.inr ⟨rfl, by assumption, by assumption, by assumption, by assumption⟩)))
theorem reg_cases (m : Mem) (a n : Int) : (m.reg a n = 1 ∧ m.b0 ≤ a ∧ a - m.b0 + n ≤ m.l0.length) ∨ (m.reg a n = 2 ∧ m.b1 ≤ a ∧ a - m.b1 + n ≤ m.l1.length) ∨ (m.reg a n = 3 ∧ m.b2 ≤ a ∧ a - m.b2 + n ≤ m.l2.length) ∨ (m.reg a n = 4 ∧ m.b3 ≤ a ∧ a - m.b3 + n ≤ m.l3.length) ∨
    (m.reg a n = 0 ∧ ¬ (m.b0 ≤ a ∧ a - m.b0 + n ≤ (m.l0.length : Int)) ∧ ¬ (m.b1 ≤ a ∧ a - m.b1 + n ≤ (m.l1.length : Int)) ∧ ¬ (m.b2 ≤ a ∧ a - m.b2 + n ≤ (m.l2.length : Int)) ∧ ¬ (m.b3 ≤ a ∧ a - m.b3 + n ≤ (m.l3.length : Int))) := by
  unfold Mem.reg
  simp only [inr_iff]
  split
  · exact .inl ⟨rfl, by assumption⟩
  · split
    · exact .inr (.inl ⟨rfl, by assumption⟩)
    · split
      · exact .inr (.inr (.inl ⟨rfl, by assumption⟩))
      · split
        · exact .inr (.inr (.inr (.inl ⟨rfl, by assumption⟩)))
        · exact .inr (.inr (.inr (.inr ⟨rfl, by assumption, by assumption, by assumption, by assumption⟩)))
theorem reg_rgn {X : Nat} {y c f s : List (List Int)} (h : LimB X y c f s) {a n : Int} (ha : inK .u64 a = true) (hn1 : 1 ≤ n) (hn8 : n ≤ 8) :
    ((memB y c f s).reg a n ≠ 0 → rgn a X y.length true = (memB y c f s).reg a n ∧ 0 < rgn a X y.length true ∧ rgn (opI .add .u64 a (IntKind.u64.wrap (opI .sub .i64 n 1))) X y.length true = rgn a X y.length true) ∧
    ((memB y c f s).reg a n = 0 → 0 < rgn a X y.length true → rgn (opI .add .u64 a (IntKind.u64.wrap (opI .sub .i64 n 1))) X y.length true ≠ rgn a X y.length true) := by
  have ha := in_u64 ha
  obtain ⟨hx, hy, hc, hf, hs⟩ := h
  rw [sub1 (by omega) (by omega), wrU (a := n - 1) (by omega) (by omega)]
  have hr := reg_cases (memB y c f s) a n
  simp only [show (memB y c f s).b0 = 1048576 from rfl, show (memB y c f s).b1 = 2097152 from rfl, show (memB y c f s).b2 = 3145728 from rfl, show (memB y c f s).b3 = 4194304 from rfl, show (memB y c f s).l0 = y from rfl, show (memB y c f s).l1 = c from rfl, show (memB y c f s).l2 = f from rfl, show (memB y c f s).l3 = s from rfl, hc, hf, hs] at hr
  have h1 := rgn_cases a hx hy
  by_cases hbig : a ≤ 18446744073709551600
  · rw [show opI .add .u64 a (n - 1) = a + (n - 1) from wrU (by omega) (by omega)]
    have h2 := rgn_cases (a + (n - 1)) hx hy
    generalize rgn a X y.length true = R1 at *
    generalize rgn (a + (n - 1)) X y.length true = R2 at *
    generalize (memB y c f s).reg a n = R at *
    refine ⟨fun _ => ?_, fun _ _ => ?_⟩ <;> omega
  · generalize rgn (opI .add .u64 a (n - 1)) X y.length true = R2 at *
    generalize rgn a X y.length true = R1 at *
    generalize (memB y c f s).reg a n = R at *
    refine ⟨fun _ => ?_, fun _ _ => ?_⟩ <;> omega
end Go.Proofs.Ytmabagpagmcnlaa
