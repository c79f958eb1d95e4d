/- The plain law of StateAll: what is known of states of which little is known. No walk is in here. -/
import Derived.Test.YtcfnglbcgkappaaSdW
import Derived.Test.YtcfnglbcgkappaaKnZ
import Derived.Test.YtcfnglbcgkappaaBdZ
set_option linter.unusedSimpArgs false
set_option linter.unusedVariables false
set_option linter.unusedVariables false
set_option linter.unusedSimpArgs false
namespace Go.Proofs.Ytcfnglbcgkappaa
open Go Go.RowKit

def tall (t : Ty) : Ty := if (t.k == 0) = true then t else tscal
theorem tise_scal : tise tscal = true := by decide
theorem tok_scal : tok tscal = true := by decide
theorem tset_scal : tset tscal = true := by decide
theorem tok_all {t : Ty} (h : tok t = true) : tok (tall t) = true := by
  unfold tall; split
  · exact h
  · exact tok_scal
theorem tall_0 {t : Ty} (h : (t.k == 0) = true) : tall t = t := if_pos h
theorem tall_n {t : Ty} (h : (t.k == 0) = false) : tall t = tscal := if_neg (by rw [h]; simp)
theorem twi_all {t : Ty} (_ : tok t = true) : twi t (tall t) = true := by
  cases hk : t.k == 0 with
  | true => rw [tall_0 hk]; exact twi_0 hk
  | false => rw [tall_n hk]; exact twi_s rfl hk tise_scal
theorem twi_scal {t : Ty} (h : tset t = true) : twi t tscal = true := by
  have hk : (t.k == 0) = false := by
    unfold tset at h; rw [Bool.and_eq_true] at h; simpa using h.2
  exact twi_s rfl hk tise_scal
theorem twi_nil (t : Ty) : twi t tnil = true := twi_0 rfl
theorem Ty.s_kwf {t : Ty} (hv : inK .u64 t.v = true) (hm : inK .u64 t.m = true) : t.s.k.wf := ⟨inK_u64 hv, inK_u64 hm⟩
theorem twi_refl {t : Ty} (hv : inK .u64 t.v = true) (hm : inK .u64 t.m = true) (h : tok t = true) : twi t t = true := by
  cases hk : t.k == 0 with
  | true => exact twi_0 hk
  | false =>
    cases hs : tise t with
    | true => exact twi_s hk hk hs
    | false =>
      cases h1 : t.k == 1 with
      | true =>
        rw [twi_1 hk hk hs (by simp) h1]
        have e : t.k = 1 := by simpa using h1
        unfold tok at h
        rw [if_neg (by omega), if_pos e] at h
        simp only [Bool.and_eq_true, vmay] at h
        rw [bin_of h.1.1 h.1.1 (Rg.Sub.refl _), kin_refl (Ty.s_kwf hv hm) h.1.2]; rfl
      | false => rw [twi_p hk hk hs (by simp) h1]; simp
theorem thold_scal {v : Int} (h0 : 0 ≤ v) (h1 : v ≤ 18446744073709551615) : thold tscal v = true := by
  rw [thold_1 tok_scal rfl]
  show vhas vall v = true
  exact vhas_mk (a := vall) (has_ball v h0 h1) (khas_all v)
/-- Registers as far as they have been made scalars. -/
def rsome (a : Sta) (n : Int) : Sta := { a with r0 := if 0 < n then tall a.r0 else a.r0, r1 := if 1 < n then tall a.r1 else a.r1, r2 := if 2 < n then tall a.r2 else a.r2, r3 := if 3 < n then tall a.r3 else a.r3, r4 := if 4 < n then tall a.r4 else a.r4, r5 := if 5 < n then tall a.r5 else a.r5, r6 := if 6 < n then tall a.r6 else a.r6, r7 := if 7 < n then tall a.r7 else a.r7, r8 := if 8 < n then tall a.r8 else a.r8, r9 := if 9 < n then tall a.r9 else a.r9, r10 := if 10 < n then tall a.r10 else a.r10 }
theorem rsome_0 (a : Sta) : rsome a 0 = a := rfl
def sall (a : Sta) : Sta := ⟨tall a.r0, tall a.r1, tall a.r2, tall a.r3, tall a.r4, tall a.r5, tall a.r6, tall a.r7, tall a.r8, tall a.r9, tall a.r10, tscal, tscal, tscal, tscal, tscal, tscal, tscal, tscal⟩
theorem smay_all {a : Sta} (h : smay a = true) : smay (sall a) = true := by
  unfold smay at h
  simp only [Bool.and_eq_true] at h
  obtain ⟨h0, h1, h2, h3, h4, h5, h6, h7, h8, h9, h10, _⟩ := h
  simp [smay, sall, tset_scal, tok_all h0, tok_all h1, tok_all h2, tok_all h3, tok_all h4, tok_all h5, tok_all h6, tok_all h7, tok_all h8, tok_all h9, tok_all h10]
theorem sin_all {a : Sta} (h : smay a = true) : sin a (sall a) = true := by
  have hm := smay_all h
  have h' := h
  unfold smay at h
  simp only [Bool.and_eq_true] at h
  obtain ⟨h0, h1, h2, h3, h4, h5, h6, h7, h8, h9, h10, g0, g1, g2, g3, g4, g5, g6, g7⟩ := h
  unfold sin
  rw [h', hm]
  simp [sall, twi_all h0, twi_all h1, twi_all h2, twi_all h3, twi_all h4, twi_all h5, twi_all h6, twi_all h7, twi_all h8, twi_all h9, twi_all h10, twi_scal g0, twi_scal g1, twi_scal g2, twi_scal g3, twi_scal g4, twi_scal g5, twi_scal g6, twi_scal g7]
theorem rsome_11 (a : Sta) : rsome a 11 = ⟨tall a.r0, tall a.r1, tall a.r2, tall a.r3, tall a.r4, tall a.r5, tall a.r6, tall a.r7, tall a.r8, tall a.r9, tall a.r10, a.s0, a.s1, a.s2, a.s3, a.s4, a.s5, a.s6, a.s7⟩ := rfl
theorem rsome_at0 (a : Sta) : rsome a 1 = { rsome a 0 with r0 := tall a.r0 } ∧ (rsome a 0).r0 = a.r0 := ⟨rfl, rfl⟩
theorem rsome_at1 (a : Sta) : rsome a 2 = { rsome a 1 with r1 := tall a.r1 } ∧ (rsome a 1).r1 = a.r1 := ⟨rfl, rfl⟩
theorem rsome_at2 (a : Sta) : rsome a 3 = { rsome a 2 with r2 := tall a.r2 } ∧ (rsome a 2).r2 = a.r2 := ⟨rfl, rfl⟩
theorem rsome_at3 (a : Sta) : rsome a 4 = { rsome a 3 with r3 := tall a.r3 } ∧ (rsome a 3).r3 = a.r3 := ⟨rfl, rfl⟩
theorem rsome_at4 (a : Sta) : rsome a 5 = { rsome a 4 with r4 := tall a.r4 } ∧ (rsome a 4).r4 = a.r4 := ⟨rfl, rfl⟩
theorem rsome_at5 (a : Sta) : rsome a 6 = { rsome a 5 with r5 := tall a.r5 } ∧ (rsome a 5).r5 = a.r5 := ⟨rfl, rfl⟩
theorem rsome_at6 (a : Sta) : rsome a 7 = { rsome a 6 with r6 := tall a.r6 } ∧ (rsome a 6).r6 = a.r6 := ⟨rfl, rfl⟩
theorem rsome_at7 (a : Sta) : rsome a 8 = { rsome a 7 with r7 := tall a.r7 } ∧ (rsome a 7).r7 = a.r7 := ⟨rfl, rfl⟩
theorem rsome_at8 (a : Sta) : rsome a 9 = { rsome a 8 with r8 := tall a.r8 } ∧ (rsome a 8).r8 = a.r8 := ⟨rfl, rfl⟩
theorem rsome_at9 (a : Sta) : rsome a 10 = { rsome a 9 with r9 := tall a.r9 } ∧ (rsome a 9).r9 = a.r9 := ⟨rfl, rfl⟩
theorem rsome_at10 (a : Sta) : rsome a 11 = { rsome a 10 with r10 := tall a.r10 } ∧ (rsome a 10).r10 = a.r10 := ⟨rfl, rfl⟩
/-- Is a register set where it is known? -/
def rset (set i : Int) (t : Ty) : Bool := t.k == 0 || sbit set i
def upto (n i : Int) (b : Bool) : Bool := if i < n then b else true
def ssome (a : Sta) (set n : Int) : Bool := upto n 0 (rset set 0 a.r0) && (upto n 1 (rset set 1 a.r1) && (upto n 2 (rset set 2 a.r2) && (upto n 3 (rset set 3 a.r3) && (upto n 4 (rset set 4 a.r4) && (upto n 5 (rset set 5 a.r5) && (upto n 6 (rset set 6 a.r6) && (upto n 7 (rset set 7 a.r7) && (upto n 8 (rset set 8 a.r8) && (upto n 9 (rset set 9 a.r9) && (upto n 10 (rset set 10 a.r10)))))))))))
theorem ssome_0 (a : Sta) (set : Int) : ssome a set 0 = true := rfl
theorem ssome_at0 (a : Sta) (set : Int) : ssome a set 1 = (ssome a set 0 && rset set 0 a.r0) := by
  simp [ssome, upto, Bool.and_assoc]
theorem ssome_at1 (a : Sta) (set : Int) : ssome a set 2 = (ssome a set 1 && rset set 1 a.r1) := by
  simp [ssome, upto, Bool.and_assoc]
theorem ssome_at2 (a : Sta) (set : Int) : ssome a set 3 = (ssome a set 2 && rset set 2 a.r2) := by
  simp [ssome, upto, Bool.and_assoc]
theorem ssome_at3 (a : Sta) (set : Int) : ssome a set 4 = (ssome a set 3 && rset set 3 a.r3) := by
  simp [ssome, upto, Bool.and_assoc]
theorem ssome_at4 (a : Sta) (set : Int) : ssome a set 5 = (ssome a set 4 && rset set 4 a.r4) := by
  simp [ssome, upto, Bool.and_assoc]
theorem ssome_at5 (a : Sta) (set : Int) : ssome a set 6 = (ssome a set 5 && rset set 5 a.r5) := by
  simp [ssome, upto, Bool.and_assoc]
theorem ssome_at6 (a : Sta) (set : Int) : ssome a set 7 = (ssome a set 6 && rset set 6 a.r6) := by
  simp [ssome, upto, Bool.and_assoc]
theorem ssome_at7 (a : Sta) (set : Int) : ssome a set 8 = (ssome a set 7 && rset set 7 a.r7) := by
  simp [ssome, upto, Bool.and_assoc]
theorem ssome_at8 (a : Sta) (set : Int) : ssome a set 9 = (ssome a set 8 && rset set 8 a.r8) := by
  simp [ssome, upto, Bool.and_assoc]
theorem ssome_at9 (a : Sta) (set : Int) : ssome a set 10 = (ssome a set 9 && rset set 9 a.r9) := by
  simp [ssome, upto, Bool.and_assoc]
theorem ssome_at10 (a : Sta) (set : Int) : ssome a set 11 = (ssome a set 10 && rset set 10 a.r10) := by
  simp [ssome, upto, Bool.and_assoc]
theorem rok_all {set i v : Int} {t : Ty} (h : tok t = true) (h0 : 0 ≤ v) (h1 : v ≤ 18446744073709551615) : rok set i (tall t) v = rset set i t := by
  cases hk : t.k == 0 with
  | true => rw [tall_0 hk]; unfold rok rset; rw [hk, thold_0 h (by simpa using hk)]; rfl
  | false => rw [tall_n hk]; unfold rok rset; rw [thold_scal h0 h1, hk, Bool.and_true]; rfl
theorem w8_u64 {b0 b1 b2 b3 b4 b5 b6 b7 : Int} (h0 : inK .u8 b0 = true) (h1 : inK .u8 b1 = true) (h2 : inK .u8 b2 = true) (h3 : inK .u8 b3 = true) (h4 : inK .u8 b4 = true) (h5 : inK .u8 b5 = true) (h6 : inK .u8 b6 = true) (h7 : inK .u8 b7 = true) :
    0 ≤ w8 b0 b1 b2 b3 b4 b5 b6 b7 ∧ w8 b0 b1 b2 b3 b4 b5 b6 b7 ≤ 18446744073709551615 := by
  have := inK_u8 h0; have := inK_u8 h1; have := inK_u8 h2; have := inK_u8 h3; have := inK_u8 h4; have := inK_u8 h5; have := inK_u8 h6; have := inK_u8 h7
  unfold w8; omega
theorem shas_all {a : Sta} {x : Snap} (h : smay a = true) (x0 : 0 ≤ x.r0 ∧ x.r0 ≤ 18446744073709551615) (x1 : 0 ≤ x.r1 ∧ x.r1 ≤ 18446744073709551615) (x2 : 0 ≤ x.r2 ∧ x.r2 ≤ 18446744073709551615) (x3 : 0 ≤ x.r3 ∧ x.r3 ≤ 18446744073709551615) (x4 : 0 ≤ x.r4 ∧ x.r4 ≤ 18446744073709551615) (x5 : 0 ≤ x.r5 ∧ x.r5 ≤ 18446744073709551615) (x6 : 0 ≤ x.r6 ∧ x.r6 ≤ 18446744073709551615) (x7 : 0 ≤ x.r7 ∧ x.r7 ≤ 18446744073709551615) (x8 : 0 ≤ x.r8 ∧ x.r8 ≤ 18446744073709551615) (x9 : 0 ≤ x.r9 ∧ x.r9 ≤ 18446744073709551615) (x10 : 0 ≤ x.r10 ∧ x.r10 ≤ 18446744073709551615) (y0 : 0 ≤ sword x 0 ∧ sword x 0 ≤ 18446744073709551615) (y1 : 0 ≤ sword x 1 ∧ sword x 1 ≤ 18446744073709551615) (y2 : 0 ≤ sword x 2 ∧ sword x 2 ≤ 18446744073709551615) (y3 : 0 ≤ sword x 3 ∧ sword x 3 ≤ 18446744073709551615) (y4 : 0 ≤ sword x 4 ∧ sword x 4 ≤ 18446744073709551615) (y5 : 0 ≤ sword x 5 ∧ sword x 5 ≤ 18446744073709551615) (y6 : 0 ≤ sword x 6 ∧ sword x 6 ≤ 18446744073709551615) (y7 : 0 ≤ sword x 7 ∧ sword x 7 ≤ 18446744073709551615) : shas (sall a) x = ssome a x.set 11 := by
  have hm := smay_all h
  unfold smay at h
  simp only [Bool.and_eq_true] at h
  obtain ⟨h0, h1, h2, h3, h4, h5, h6, h7, h8, h9, h10, _⟩ := h
  unfold shas
  rw [hm]
  simp only [sall, rok_all h0 x0.1 x0.2, rok_all h1 x1.1 x1.2, rok_all h2 x2.1 x2.2, rok_all h3 x3.1 x3.2, rok_all h4 x4.1 x4.2, rok_all h5 x5.1 x5.2, rok_all h6 x6.1 x6.2, rok_all h7 x7.1 x7.2, rok_all h8 x8.1 x8.2, rok_all h9 x9.1 x9.2, rok_all h10 x10.1 x10.2, thold_scal y0.1 y0.2, thold_scal y1.1 y1.2, thold_scal y2.1 y2.2, thold_scal y3.1 y3.2, thold_scal y4.1 y4.2, thold_scal y5.1 y5.2, thold_scal y6.1 y6.2, thold_scal y7.1 y7.2, ssome, upto, Int.reduceLT, if_true, Bool.true_and, Bool.and_true]
theorem rok_nil {set i v : Int} : rok set i tnil v = true := rfl
theorem tok_nil : tok tnil = true := rfl
/-- A state with fewer types. -/
theorem fewer_in {a b : Sta} (hm : smay a = true) (ok : ∀ t : Ty, t = a.r0 ∨ t = a.r1 ∨ t = a.r2 ∨ t = a.r3 ∨ t = a.r4 ∨ t = a.r5 ∨ t = a.r6 ∨ t = a.r7 ∨ t = a.r8 ∨ t = a.r9 ∨ t = a.r10 ∨ t = a.s0 ∨ t = a.s1 ∨ t = a.s2 ∨ t = a.s3 ∨ t = a.s4 ∨ t = a.s5 ∨ t = a.s6 ∨ t = a.s7 → inK .u64 t.v = true ∧ inK .u64 t.m = true)
    (q0 : b.r0 = a.r0 ∨ b.r0 = tnil) (q1 : b.r1 = a.r1 ∨ b.r1 = tnil) (q2 : b.r2 = a.r2 ∨ b.r2 = tnil) (q3 : b.r3 = a.r3 ∨ b.r3 = tnil) (q4 : b.r4 = a.r4 ∨ b.r4 = tnil) (q5 : b.r5 = a.r5 ∨ b.r5 = tnil) (q6 : b.r6 = a.r6 ∨ b.r6 = tnil) (q7 : b.r7 = a.r7 ∨ b.r7 = tnil) (q8 : b.r8 = a.r8 ∨ b.r8 = tnil) (q9 : b.r9 = a.r9 ∨ b.r9 = tnil) (q10 : b.r10 = a.r10 ∨ b.r10 = tnil) (hs : b.s0 = a.s0 ∧ b.s1 = a.s1 ∧ b.s2 = a.s2 ∧ b.s3 = a.s3 ∧ b.s4 = a.s4 ∧ b.s5 = a.s5 ∧ b.s6 = a.s6 ∧ b.s7 = a.s7) : sin a b = true ∧ ∀ x, shas a x = true → shas b x = true := by
  have h' := hm
  unfold smay at hm
  simp only [Bool.and_eq_true] at hm
  obtain ⟨h0, h1, h2, h3, h4, h5, h6, h7, h8, h9, h10, g0, g1, g2, g3, g4, g5, g6, g7⟩ := hm
  have T : ∀ {t u : Ty}, (u = t ∨ u = tnil) → tok t = true → inK .u64 t.v = true ∧ inK .u64 t.m = true → tok u = true ∧ twi t u = true ∧ ∀ set i v, rok set i t v = true → rok set i u v = true := by
    intro t u hu ht hk
    rcases hu with rfl | rfl
    · exact ⟨ht, twi_refl hk.1 hk.2 ht, fun _ _ _ q => q⟩
    · exact ⟨tok_nil, twi_nil _, fun _ _ _ _ => rok_nil⟩
  have S : ∀ {t : Ty}, tset t = true → inK .u64 t.v = true ∧ inK .u64 t.m = true → twi t t = true := by
    intro t ht hk
    unfold tset at ht; rw [Bool.and_eq_true] at ht
    exact twi_refl hk.1 hk.2 ht.1
  obtain ⟨e0, e1, e2, e3, e4, e5, e6, e7⟩ := hs
  obtain ⟨t0, w0, f0⟩ := T q0 h0 (ok _ (by simp))
  obtain ⟨t1, w1, f1⟩ := T q1 h1 (ok _ (by simp))
  obtain ⟨t2, w2, f2⟩ := T q2 h2 (ok _ (by simp))
  obtain ⟨t3, w3, f3⟩ := T q3 h3 (ok _ (by simp))
  obtain ⟨t4, w4, f4⟩ := T q4 h4 (ok _ (by simp))
  obtain ⟨t5, w5, f5⟩ := T q5 h5 (ok _ (by simp))
  obtain ⟨t6, w6, f6⟩ := T q6 h6 (ok _ (by simp))
  obtain ⟨t7, w7, f7⟩ := T q7 h7 (ok _ (by simp))
  obtain ⟨t8, w8, f8⟩ := T q8 h8 (ok _ (by simp))
  obtain ⟨t9, w9, f9⟩ := T q9 h9 (ok _ (by simp))
  obtain ⟨t10, w10, f10⟩ := T q10 h10 (ok _ (by simp))
  have s0 := S g0 (ok _ (by simp))
  have s1 := S g1 (ok _ (by simp))
  have s2 := S g2 (ok _ (by simp))
  have s3 := S g3 (ok _ (by simp))
  have s4 := S g4 (ok _ (by simp))
  have s5 := S g5 (ok _ (by simp))
  have s6 := S g6 (ok _ (by simp))
  have s7 := S g7 (ok _ (by simp))
  have hb : smay b = true := by
    unfold smay
    rw [e0, e1, e2, e3, e4, e5, e6, e7]
    simp only [t0, t1, t2, t3, t4, t5, t6, t7, t8, t9, t10, g0, g1, g2, g3, g4, g5, g6, g7, Bool.and_self]
  refine ⟨?_, fun x hx => ?_⟩
  · unfold sin
    rw [h', hb, e0, e1, e2, e3, e4, e5, e6, e7]
    simp only [w0, w1, w2, w3, w4, w5, w6, w7, w8, w9, w10, s0, s1, s2, s3, s4, s5, s6, s7, Bool.and_self]
  · unfold shas at hx ⊢
    simp only [Bool.and_eq_true] at hx ⊢
    obtain ⟨_, m0, m1, m2, m3, m4, m5, m6, m7, m8, m9, m10, k0, k1, k2, k3, k4, k5, k6, k7⟩ := hx
    rw [e0, e1, e2, e3, e4, e5, e6, e7]
    exact ⟨hb, f0 _ _ _ m0, f1 _ _ _ m1, f2 _ _ _ m2, f3 _ _ _ m3, f4 _ _ _ m4, f5 _ _ _ m5, f6 _ _ _ m6, f7 _ _ _ m7, f8 _ _ _ m8, f9 _ _ _ m9, f10 _ _ _ m10, k0, k1, k2, k3, k4, k5, k6, k7⟩
/-- The registers' data. -/
def regsD (s : Sta) : List Dt := [.z s.r0.k, .z s.r0.ul, .z s.r0.uh, .z s.r0.sl, .z s.r0.sh, .z s.r0.v, .z s.r0.m, .z s.r0.lo, .z s.r0.hi, .z s.r1.k, .z s.r1.ul, .z s.r1.uh, .z s.r1.sl, .z s.r1.sh, .z s.r1.v, .z s.r1.m, .z s.r1.lo, .z s.r1.hi, .z s.r2.k, .z s.r2.ul, .z s.r2.uh, .z s.r2.sl, .z s.r2.sh, .z s.r2.v, .z s.r2.m, .z s.r2.lo, .z s.r2.hi, .z s.r3.k, .z s.r3.ul, .z s.r3.uh, .z s.r3.sl, .z s.r3.sh, .z s.r3.v, .z s.r3.m, .z s.r3.lo, .z s.r3.hi, .z s.r4.k, .z s.r4.ul, .z s.r4.uh, .z s.r4.sl, .z s.r4.sh, .z s.r4.v, .z s.r4.m, .z s.r4.lo, .z s.r4.hi, .z s.r5.k, .z s.r5.ul, .z s.r5.uh, .z s.r5.sl, .z s.r5.sh, .z s.r5.v, .z s.r5.m, .z s.r5.lo, .z s.r5.hi, .z s.r6.k, .z s.r6.ul, .z s.r6.uh, .z s.r6.sl, .z s.r6.sh, .z s.r6.v, .z s.r6.m, .z s.r6.lo, .z s.r6.hi, .z s.r7.k, .z s.r7.ul, .z s.r7.uh, .z s.r7.sl, .z s.r7.sh, .z s.r7.v, .z s.r7.m, .z s.r7.lo, .z s.r7.hi, .z s.r8.k, .z s.r8.ul, .z s.r8.uh, .z s.r8.sl, .z s.r8.sh, .z s.r8.v, .z s.r8.m, .z s.r8.lo, .z s.r8.hi, .z s.r9.k, .z s.r9.ul, .z s.r9.uh, .z s.r9.sl, .z s.r9.sh, .z s.r9.v, .z s.r9.m, .z s.r9.lo, .z s.r9.hi, .z s.r10.k, .z s.r10.ul, .z s.r10.uh, .z s.r10.sl, .z s.r10.sh, .z s.r10.v, .z s.r10.m, .z s.r10.lo, .z s.r10.hi]
theorem rsome_z0 {a : Sta} (h : (a.r0.k == 0) = true) : rsome a 1 = rsome a 0 := by rw [(rsome_at0 a).1, tall_0 h]; rfl
theorem rsome_n0 {a : Sta} (h : (a.r0.k == 0) = false) : rsome a 1 = { rsome a 0 with r0 := tscal } := by rw [(rsome_at0 a).1, tall_n h]
theorem rsome_z1 {a : Sta} (h : (a.r1.k == 0) = true) : rsome a 2 = rsome a 1 := by rw [(rsome_at1 a).1, tall_0 h]; rfl
theorem rsome_n1 {a : Sta} (h : (a.r1.k == 0) = false) : rsome a 2 = { rsome a 1 with r1 := tscal } := by rw [(rsome_at1 a).1, tall_n h]
theorem rsome_z2 {a : Sta} (h : (a.r2.k == 0) = true) : rsome a 3 = rsome a 2 := by rw [(rsome_at2 a).1, tall_0 h]; rfl
theorem rsome_n2 {a : Sta} (h : (a.r2.k == 0) = false) : rsome a 3 = { rsome a 2 with r2 := tscal } := by rw [(rsome_at2 a).1, tall_n h]
theorem rsome_z3 {a : Sta} (h : (a.r3.k == 0) = true) : rsome a 4 = rsome a 3 := by rw [(rsome_at3 a).1, tall_0 h]; rfl
theorem rsome_n3 {a : Sta} (h : (a.r3.k == 0) = false) : rsome a 4 = { rsome a 3 with r3 := tscal } := by rw [(rsome_at3 a).1, tall_n h]
theorem rsome_z4 {a : Sta} (h : (a.r4.k == 0) = true) : rsome a 5 = rsome a 4 := by rw [(rsome_at4 a).1, tall_0 h]; rfl
theorem rsome_n4 {a : Sta} (h : (a.r4.k == 0) = false) : rsome a 5 = { rsome a 4 with r4 := tscal } := by rw [(rsome_at4 a).1, tall_n h]
theorem rsome_z5 {a : Sta} (h : (a.r5.k == 0) = true) : rsome a 6 = rsome a 5 := by rw [(rsome_at5 a).1, tall_0 h]; rfl
theorem rsome_n5 {a : Sta} (h : (a.r5.k == 0) = false) : rsome a 6 = { rsome a 5 with r5 := tscal } := by rw [(rsome_at5 a).1, tall_n h]
theorem rsome_z6 {a : Sta} (h : (a.r6.k == 0) = true) : rsome a 7 = rsome a 6 := by rw [(rsome_at6 a).1, tall_0 h]; rfl
theorem rsome_n6 {a : Sta} (h : (a.r6.k == 0) = false) : rsome a 7 = { rsome a 6 with r6 := tscal } := by rw [(rsome_at6 a).1, tall_n h]
theorem rsome_z7 {a : Sta} (h : (a.r7.k == 0) = true) : rsome a 8 = rsome a 7 := by rw [(rsome_at7 a).1, tall_0 h]; rfl
theorem rsome_n7 {a : Sta} (h : (a.r7.k == 0) = false) : rsome a 8 = { rsome a 7 with r7 := tscal } := by rw [(rsome_at7 a).1, tall_n h]
theorem rsome_z8 {a : Sta} (h : (a.r8.k == 0) = true) : rsome a 9 = rsome a 8 := by rw [(rsome_at8 a).1, tall_0 h]; rfl
theorem rsome_n8 {a : Sta} (h : (a.r8.k == 0) = false) : rsome a 9 = { rsome a 8 with r8 := tscal } := by rw [(rsome_at8 a).1, tall_n h]
theorem rsome_z9 {a : Sta} (h : (a.r9.k == 0) = true) : rsome a 10 = rsome a 9 := by rw [(rsome_at9 a).1, tall_0 h]; rfl
theorem rsome_n9 {a : Sta} (h : (a.r9.k == 0) = false) : rsome a 10 = { rsome a 9 with r9 := tscal } := by rw [(rsome_at9 a).1, tall_n h]
theorem rsome_z10 {a : Sta} (h : (a.r10.k == 0) = true) : rsome a 11 = rsome a 10 := by rw [(rsome_at10 a).1, tall_0 h]; rfl
theorem rsome_n10 {a : Sta} (h : (a.r10.k == 0) = false) : rsome a 11 = { rsome a 10 with r10 := tscal } := by rw [(rsome_at10 a).1, tall_n h]
theorem upto_mono {n i : Int} {b : Bool} (h : upto (n + 1) i b = true) : upto n i b = true := by
  unfold upto at h ⊢
  split
  · rw [if_pos (by omega)] at h; exact h
  · rfl
theorem ssome_false {a : Sta} {set n : Int} (h : ssome a set n = false) : ssome a set (n + 1) = false := by
  rw [← Bool.not_eq_true] at h ⊢
  intro g
  apply h
  unfold ssome at g ⊢
  simp only [Bool.and_eq_true] at g ⊢
  obtain ⟨g0, g1, g2, g3, g4, g5, g6, g7, g8, g9, g10⟩ := g
  exact ⟨upto_mono g0, upto_mono g1, upto_mono g2, upto_mono g3, upto_mono g4, upto_mono g5, upto_mono g6, upto_mono g7, upto_mono g8, upto_mono g9, upto_mono g10⟩
theorem mod11 (n : Int) : 0 ≤ opI .rem .i64 (opI .add .i64 (opI .rem .i64 n 11) 11) 11 ∧ opI .rem .i64 (opI .add .i64 (opI .rem .i64 n 11) 11) 11 ≤ 10 := by
  show 0 ≤ Int.tmod (IntKind.i64.wrap (Int.tmod n 11 + 11)) 11 ∧ Int.tmod (IntKind.i64.wrap (Int.tmod n 11 + 11)) 11 ≤ 10
  have h1 : Int.tmod n 11 < 11 := Int.tmod_lt_of_pos _ (by decide)
  have h2 : -11 < Int.tmod n 11 := Int.lt_tmod_of_pos _ (by decide)
  have e : IntKind.i64.wrap (Int.tmod n 11 + 11) = Int.tmod n 11 + 11 := by rw [w_i64]; omega
  rw [e]
  have h3 : 0 ≤ Int.tmod (Int.tmod n 11 + 11) 11 := Int.tmod_nonneg _ (by omega)
  have h4 : Int.tmod (Int.tmod n 11 + 11) 11 < 11 := Int.tmod_lt_of_pos _ (by decide)
  omega
end Go.Proofs.Ytcfnglbcgkappaa

