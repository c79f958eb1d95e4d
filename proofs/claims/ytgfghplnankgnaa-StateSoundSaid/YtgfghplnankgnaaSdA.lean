/- Types and states of layer 10: plain definitions. No walk is in here. -/
import Derived.Test.YtgfghplnankgnaaVk
set_option linter.unusedVariables false
set_option linter.unusedSimpArgs false
namespace Go.Proofs.Ytgfghplnankgnaa
open Go Go.RowKit

structure Ty where
  k : Int
  ul : Int
  uh : Int
  sl : Int
  sh : Int
  v : Int
  m : Int
  lo : Int
  hi : Int
def Ty.s (t : Ty) : Sc := ⟨t.ul, t.uh, t.sl, t.sh, t.v, t.m⟩
def ty (k : Int) (s : Sc) (lo hi : Int) : Ty := ⟨k, s.ul, s.uh, s.sl, s.sh, s.v, s.m, lo, hi⟩
theorem Ty.eta_s (t : Ty) : (⟨t.ul, t.uh, t.sl, t.sh, t.v, t.m⟩ : Sc) = t.s := rfl
structure Sta where
  r0 : Ty
  r1 : Ty
  r2 : Ty
  r3 : Ty
  r4 : Ty
  r5 : Ty
  r6 : Ty
  r7 : Ty
  r8 : Ty
  r9 : Ty
  r10 : Ty
  s0 : Ty
  s1 : Ty
  s2 : Ty
  s3 : Ty
  s4 : Ty
  s5 : Ty
  s6 : Ty
  s7 : Ty
def tnil : Ty := ⟨0, 0, 0, 0, 0, 0, 0, 0, 0⟩
def tscal : Ty := ty 1 vall 0 0
/-- Is the scalar all noughts? -/
def tbare (t : Ty) : Bool := (t.ul == 0) && ((t.uh == 0) && ((t.sl == 0) && ((t.sh == 0) && ((t.v == 0) && (t.m == 0)))))
def tok (t : Ty) : Bool :=
  if t.k = 0 then tbare t && ((t.lo == 0) && (t.hi == 0))
  else if t.k = 1 then vmay t.s && ((t.lo == 0) && (t.hi == 0))
  else if t.k = 2 ∨ t.k = 3 then tbare t && (decide (t.lo ≤ t.hi) && (decide (-1048576 ≤ t.lo) && decide (t.hi ≤ 1048576)))
  else false
def tset (t : Ty) : Bool := tok t && !(t.k == 0)
def smay (s : Sta) : Bool :=
  tok s.r0 && (tok s.r1 && (tok s.r2 && (tok s.r3 && (tok s.r4 && (tok s.r5 && (tok s.r6 && (tok s.r7 && (tok s.r8 && (tok s.r9 && (tok s.r10 &&
  (tset s.s0 && (tset s.s1 && (tset s.s2 && (tset s.s3 && (tset s.s4 && (tset s.s5 && (tset s.s6 && tset s.s7)))))))))))))))))
def tbase (t : Ty) : Int := if t.k = 2 then 2097152 else 3145728
def toff (t : Ty) (v : Int) : Int := IntKind.i64.wrap (IntKind.u64.wrap (v - tbase t))
def thold (t : Ty) (v : Int) : Bool :=
  tok t && (if t.k = 0 then true else if t.k = 1 then vhas t.s v else (decide (t.lo ≤ toff t v) && decide (toff t v ≤ t.hi)))
theorem tok_kinds {t : Ty} (h : tok t = true) : t.k = 0 ∨ t.k = 1 ∨ t.k = 2 ∨ t.k = 3 := by
  unfold tok at h
  split at h
  · exact .inl ‹_›
  split at h
  · exact .inr (.inl ‹_›)
  split at h
  · rename_i h2; exact .inr (.inr h2)
  · cases h
theorem thold_no {t : Ty} {v : Int} (h : tok t = false) : thold t v = false := by unfold thold; rw [h]; rfl
theorem thold_0 {t : Ty} {v : Int} (h : tok t = true) (hk : t.k = 0) : thold t v = true := by unfold thold; rw [h, if_pos hk]; rfl
theorem thold_1 {t : Ty} {v : Int} (h : tok t = true) (hk : t.k = 1) : thold t v = vhas t.s v := by unfold thold; rw [h, if_neg (by omega), if_pos hk]; rfl
theorem thold_2 {t : Ty} {v : Int} (h : tok t = true) (hk : t.k = 2) : thold t v = (decide (t.lo ≤ IntKind.i64.wrap (IntKind.u64.wrap (v - 2097152))) && decide (IntKind.i64.wrap (IntKind.u64.wrap (v - 2097152)) ≤ t.hi)) := by
  unfold thold toff tbase; rw [h, if_neg (by omega), if_neg (by omega), if_pos hk]; rfl
theorem thold_3 {t : Ty} {v : Int} (h : tok t = true) (hk : t.k = 3) : thold t v = (decide (t.lo ≤ IntKind.i64.wrap (IntKind.u64.wrap (v - 3145728))) && decide (IntKind.i64.wrap (IntKind.u64.wrap (v - 3145728)) ≤ t.hi)) := by
  unfold thold toff tbase; rw [h, if_neg (by omega), if_neg (by omega), if_neg (by omega)]; rfl
theorem lele_no {a b c : Int} (h : decide (b < a) = true) : (decide (a ≤ b) && decide (b ≤ c)) = false := by have := of_decide_eq_true h; simp; omega
theorem lele_yes {a b c : Int} (h : decide (b < a) = false) : (decide (a ≤ b) && decide (b ≤ c)) = !decide (c < b) := by
  have := of_decide_eq_false h; rw [Bool.eq_iff_iff]; simp; omega
def sfirst : Sta := ⟨tnil, ⟨2, 0, 0, 0, 0, 0, 0, 0, 0⟩, tnil, tnil, tnil, tnil, tnil, tnil, tnil, tnil, ⟨3, 0, 0, 0, 0, 0, 0, 64, 64⟩,
  ty 1 (vone 0) 0 0, ty 1 (vone 0) 0 0, ty 1 (vone 0) 0 0, ty 1 (vone 0) 0 0, ty 1 (vone 0) 0 0, ty 1 (vone 0) 0 0, ty 1 (vone 0) 0 0, ty 1 (vone 0) 0 0⟩
/-- Two types joined, or widened. -/
def tlo (w : Bool) (a b : Ty) : Int := if w = true ∧ min a.lo b.lo < a.lo then -1048576 else min a.lo b.lo
def thi (w : Bool) (a b : Ty) : Int := if w = true ∧ a.hi < max a.hi b.hi then 1048576 else max a.hi b.hi
def tjoin2 (w t : Bool) (a b : Ty) : Ty :=
  if a.k = 0 ∨ b.k = 0 then tnil
  else if a.k ≠ b.k then tscal
  else if a.k = 1 then ty 1 (if w = true then vwid a.s b.s else vjoin a.s b.s) 0 0
  else ⟨a.k, 0, 0, 0, 0, 0, 0, tlo t a b, thi t a b⟩
def tjoin (w : Bool) (a b : Ty) : Ty := tjoin2 w w a b
def smap (w : Bool) (a b : Sta) : Sta := ⟨tjoin w a.r0 b.r0, tjoin w a.r1 b.r1, tjoin w a.r2 b.r2, tjoin w a.r3 b.r3, tjoin w a.r4 b.r4, tjoin w a.r5 b.r5, tjoin w a.r6 b.r6, tjoin w a.r7 b.r7, tjoin w a.r8 b.r8, tjoin w a.r9 b.r9, tjoin w a.r10 b.r10,
  tjoin w a.s0 b.s0, tjoin w a.s1 b.s1, tjoin w a.s2 b.s2, tjoin w a.s3 b.s3, tjoin w a.s4 b.s4, tjoin w a.s5 b.s5, tjoin w a.s6 b.s6, tjoin w a.s7 b.s7⟩
def snil : Sta := ⟨tnil, tnil, tnil, tnil, tnil, tnil, tnil, tnil, tnil, tnil, tnil, tnil, tnil, tnil, tnil, tnil, tnil, tnil, tnil⟩
def sjoin (w : Bool) (a b : Sta) : Sta := if smay a = true ∧ smay b = true then smap w a b else snil
def serr (a b : Sta) : Int := if smay a = true ∧ smay b = true then 0 else 2
theorem tj_a {w t : Bool} {a b : Ty} (h : (a.k == 0) = true) : tjoin2 w t a b = tnil := by unfold tjoin2; rw [if_pos (.inl (by simpa using h))]
theorem tj_b {w t : Bool} {a b : Ty} (h : (b.k == 0) = true) : tjoin2 w t a b = tnil := by unfold tjoin2; rw [if_pos (.inr (by simpa using h))]
theorem tj_ne {w t : Bool} {a b : Ty} (h0 : (a.k == 0) = false) (h1 : (b.k == 0) = false) (h2 : (a.k == b.k) = false) : tjoin2 w t a b = tscal := by
  unfold tjoin2; rw [if_neg (by simp at h0 h1; simp [h0, h1]), if_pos (by simpa using h2)]
theorem tj_1 {w t : Bool} {a b : Ty} (h0 : (a.k == 0) = false) (h1 : (b.k == 0) = false) (h2 : (a.k == b.k) = true) (h3 : (a.k == 1) = true) : tjoin2 w t a b = ty a.k (if w = true then vwid a.s b.s else vjoin a.s b.s) 0 0 := by
  have e : a.k = 1 := by simpa using h3
  unfold tjoin2; rw [if_neg (by simp at h0 h1; simp [h0, h1]), if_neg (by simpa using h2), if_pos e, e]
theorem tj_p {w t : Bool} {a b : Ty} (h0 : (a.k == 0) = false) (h1 : (b.k == 0) = false) (h2 : (a.k == b.k) = true) (h3 : (a.k == 1) = false) : tjoin2 w t a b = ⟨a.k, 0, 0, 0, 0, 0, 0, tlo t a b, thi t a b⟩ := by
  unfold tjoin2; rw [if_neg (by simp at h0 h1; simp [h0, h1]), if_neg (by simpa using h2), if_neg (by simpa using h3)]
theorem tlo_t {t : Bool} {a b : Ty} (h : t = true) (h2 : decide (min a.lo b.lo < a.lo) = true) : tlo t a b = -1048576 := by unfold tlo; rw [if_pos ⟨h, of_decide_eq_true h2⟩]
theorem tlo_n {t : Bool} {a b : Ty} (h2 : decide (min a.lo b.lo < a.lo) = false) : tlo t a b = min a.lo b.lo := by unfold tlo; rw [if_neg (fun q => of_decide_eq_false h2 q.2)]
theorem tlo_f {t : Bool} {a b : Ty} (h : t = false) : tlo t a b = min a.lo b.lo := by unfold tlo; rw [if_neg (fun q => by rw [h] at q; cases q.1)]
theorem thi_t {t : Bool} {a b : Ty} (h : t = true) (h2 : decide (a.hi < max a.hi b.hi) = true) : thi t a b = 1048576 := by unfold thi; rw [if_pos ⟨h, of_decide_eq_true h2⟩]
theorem thi_n {t : Bool} {a b : Ty} (h2 : decide (a.hi < max a.hi b.hi) = false) : thi t a b = max a.hi b.hi := by unfold thi; rw [if_neg (fun q => of_decide_eq_false h2 q.2)]
theorem thi_f {t : Bool} {a b : Ty} (h : t = false) : thi t a b = max a.hi b.hi := by unfold thi; rw [if_neg (fun q => by rw [h] at q; cases q.1)]
-- as the document has it
theorem sj_yes {w : Bool} {a b : Sta} (h : smay a = true) (h2 : smay b = true) : sjoin w a b = smap w a b ∧ serr a b = 0 := ⟨if_pos ⟨h, h2⟩, if_pos ⟨h, h2⟩⟩
theorem sj_no {w : Bool} {a b : Sta} (h : smay a = false ∨ smay b = false) : sjoin w a b = snil ∧ serr a b = 2 := by
  have : ¬ (smay a = true ∧ smay b = true) := by rcases h with h | h <;> simp [h]
  exact ⟨if_neg this, if_neg this⟩
/-- Is a type the scalar of which nothing is known? -/
def tise (b : Ty) : Bool := (b.k == tscal.k) && ((b.ul == tscal.ul) && ((b.uh == tscal.uh) && ((b.sl == tscal.sl) && ((b.sh == tscal.sh) && ((b.v == tscal.v) && ((b.m == tscal.m) && ((b.lo == tscal.lo) && (b.hi == tscal.hi))))))))
def twi (a b : Ty) : Bool :=
  if (b.k == 0) = true then true else if (a.k == 0) = true then false else if tise b = true then true else if (a.k == b.k) = false then false
  else if (a.k == 1) = true then (bin a.s.r b.s.r && kin a.s.k b.s.k) else (decide (b.lo ≤ a.lo) && decide (a.hi ≤ b.hi))
theorem twi_0 {a b : Ty} (h : (b.k == 0) = true) : twi a b = true := by unfold twi; rw [if_pos h]
theorem twi_a {a b : Ty} (h : (b.k == 0) = false) (h1 : (a.k == 0) = true) : twi a b = false := by unfold twi; rw [if_neg (by rw [h]; simp), if_pos h1]
theorem twi_s {a b : Ty} (h : (b.k == 0) = false) (h1 : (a.k == 0) = false) (h2 : tise b = true) : twi a b = true := by unfold twi; rw [if_neg (by rw [h]; simp), if_neg (by rw [h1]; simp), if_pos h2]
theorem twi_n {a b : Ty} (h : (b.k == 0) = false) (h1 : (a.k == 0) = false) (h2 : tise b = false) (h3 : (a.k == b.k) = false) : twi a b = false := by unfold twi; rw [if_neg (by rw [h]; simp), if_neg (by rw [h1]; simp), if_neg (by rw [h2]; simp), if_pos h3]
theorem twi_1 {a b : Ty} (h : (b.k == 0) = false) (h1 : (a.k == 0) = false) (h2 : tise b = false) (h3 : (a.k == b.k) = true) (h4 : (a.k == 1) = true) : twi a b = (bin a.s.r b.s.r && kin a.s.k b.s.k) := by
  unfold twi; rw [if_neg (by rw [h]; simp), if_neg (by rw [h1]; simp), if_neg (by rw [h2]; simp), if_neg (by rw [h3]; simp), if_pos h4]
theorem twi_p {a b : Ty} (h : (b.k == 0) = false) (h1 : (a.k == 0) = false) (h2 : tise b = false) (h3 : (a.k == b.k) = true) (h4 : (a.k == 1) = false) : twi a b = (decide (b.lo ≤ a.lo) && decide (a.hi ≤ b.hi)) := by
  unfold twi; rw [if_neg (by rw [h]; simp), if_neg (by rw [h1]; simp), if_neg (by rw [h2]; simp), if_neg (by rw [h3]; simp), if_neg (by rw [h4]; simp)]
def sin (a b : Sta) : Bool := smay a && (smay b && (twi a.r0 b.r0 && (twi a.r1 b.r1 && (twi a.r2 b.r2 && (twi a.r3 b.r3 && (twi a.r4 b.r4 && (twi a.r5 b.r5 && (twi a.r6 b.r6 && (twi a.r7 b.r7 && (twi a.r8 b.r8 && (twi a.r9 b.r9 && (twi a.r10 b.r10 && (twi a.s0 b.s0 && (twi a.s1 b.s1 && (twi a.s2 b.s2 && (twi a.s3 b.s3 && (twi a.s4 b.s4 && (twi a.s5 b.s5 && (twi a.s6 b.s6 && (twi a.s7 b.s7))))))))))))))))))))
theorem le2_no {x y : Int} {q : Bool} (h : decide (x < y) = true) : (decide (y ≤ x) && q) = false := by have := of_decide_eq_true h; rw [decide_eq_false (by omega), Bool.false_and]
theorem le2_yes {x y u v : Int} (h : decide (x < y) = false) : (decide (y ≤ x) && decide (u ≤ v)) = !decide (v < u) := by
  have := of_decide_eq_false h; rw [decide_eq_true (by omega), Bool.true_and, Bool.eq_iff_iff]; simp
end Go.Proofs.Ytgfghplnankgnaa

