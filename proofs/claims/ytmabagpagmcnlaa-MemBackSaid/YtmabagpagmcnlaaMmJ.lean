/- Memories of four regions: what a write leaves. No walk is in here. -/
import Derived.Test.YtmabagpagmcnlaaMmI
set_option linter.unusedSimpArgs false
set_option linter.unusedVariables false
set_option linter.unusedVariables false
set_option linter.unusedSimpArgs false
namespace Go.Proofs.Ytmabagpagmcnlaa
open Go Go.RowKit

theorem act_in {l : List (List Int)} (hr : RowsIn [some .i64, some .u64, some .i64, some .u64] l) {i : Nat} (hi : i < l.length) : inK .u64 (gt l (i : Int) 1) = true ∧ inK .i64 (gt l (i : Int) 2) = true ∧ inK .u64 (gt l (i : Int) 3) = true := by
  have h1 := hr.row l[i] (List.getElem_mem hi)
  have h2 := rowIn_length h1
  have hg : ∀ c, gt l (i : Int) c = l[i].getD c 0 := fun c => by
    unfold gt
    rw [Int.toNat_natCast, List.getD_eq_getElem?_getD (l := l), List.getElem?_eq_getElem hi, Option.getD_some]
  rw [hg, hg, hg]
  generalize l[i] = r at h1 h2
  match r, h2 with
  | [w, x, y, z], _ =>
    simp only [rowIn, inCE, Bool.and_eq_true, and_true] at h1
    exact ⟨h1.2.1, h1.2.2.1, h1.2.2.2⟩
/-- What is left when the bytes of v are put into a region. -/
structure Put (m m' : Mem) (a n v : Int) : Prop where
  ex : ∃ b l, m.Row b l ∧ inr b l a n = true ∧ m'.Row b (putL l (a - b).toNat v n.toNat) ∧ ∀ b' l', m'.Row b' l' → (b' = b ∧ l' = putL l (a - b).toNat v n.toNat) ∨ (b' ≠ b ∧ m.Row b' l')
/-- What a write answers and leaves. -/
def Wrote (m m' : Mem) (a n v e : Int) : Prop := (2 ≤ m.reg a n ∧ e = 0 ∧ Put m m' a n v) ∨ (m.reg a n < 2 ∧ e = 20 ∧ m' = m)
theorem row_same {m : Mem} (hf : m.Lim) {b b' : Int} {l l' : List (List Int)} (h : m.Row b l) (h' : m.Row b' l') {A : Int} (hi : inr b l A 1 = true) (hi' : inr b' l' A 1 = true) : b = b' := by
  have g := inr_iff.1 hi
  have g' := inr_iff.1 hi'
  obtain ⟨e0, e1, e2, e3, g0, g1, g2, g3⟩ := hf
  rcases h with ⟨rfl, rfl⟩ | ⟨rfl, rfl⟩ | ⟨rfl, rfl⟩ | ⟨rfl, rfl⟩ <;> rcases h' with ⟨rfl, rfl⟩ | ⟨rfl, rfl⟩ | ⟨rfl, rfl⟩ | ⟨rfl, rfl⟩ <;> first | rfl | omega
theorem inr_len' {l l' : List (List Int)} (h : l'.length = l.length) (b A n : Int) : inr b l' A n = inr b l A n := by unfold inr; rw [h]
theorem reg_len {y c f s c' f' s' : List (List Int)} (hc : c'.length = c.length) (hf : f'.length = f.length) (hs : s'.length = s.length) (A n : Int) : (memB y c' f' s').reg A n = (memB y c f s).reg A n := by
  have e1 : inr (memB y c' f' s').b1 (memB y c' f' s').l1 A n = inr (memB y c f s).b1 (memB y c f s).l1 A n := inr_len' hc _ _ _
  have e2 : inr (memB y c' f' s').b2 (memB y c' f' s').l2 A n = inr (memB y c f s).b2 (memB y c f s).l2 A n := inr_len' hf _ _ _
  have e3 : inr (memB y c' f' s').b3 (memB y c' f' s').l3 A n = inr (memB y c f s).b3 (memB y c f s).l3 A n := inr_len' hs _ _ _
  unfold Mem.reg
  rw [e1, e2, e3]
  rfl
theorem rdE_len {y c f s c' f' s' : List (List Int)} (hc : c'.length = c.length) (hf : f'.length = f.length) (hs : s'.length = s.length) (A n : Int) : rdE (memB y c' f' s') A n = rdE (memB y c f s) A n := by
  unfold rdE
  rw [reg_len hc hf hs]
/-- A byte read behind a write. -/
theorem Put.read {m m' : Mem} {a n v : Int} (h : Put m m' a n v) (hf : m.Lim) (hf' : m'.Lim) (hr : ∀ b l, m.Row b l → RowsIn [some .u8] l) (hn1 : 1 ≤ n) (hn8 : n ≤ 8) {k : Int} (hk : -9 ≤ k) (hk2 : k < n + 9) (h0 : rdE m' (opI .add .u64 a (IntKind.u64.wrap k)) 1 = 0) :
    rdV m' (opI .add .u64 a (IntKind.u64.wrap k)) 1 = if 0 ≤ k ∧ k < n then byteK v k.toNat else rdV m (opI .add .u64 a (IntKind.u64.wrap k)) 1 := by
  obtain ⟨b, l, h1, h2, h3, h4⟩ := h.ex
  have hi := inr_iff.1 h2
  have hlim := h1.lim hf
  have hb9 : 9 ≤ a := by
    obtain ⟨e0, e1, e2, e3, _, _, _, _⟩ := hf
    rcases h1 with ⟨rfl, rfl⟩ | ⟨rfl, rfl⟩ | ⟨rfl, rfl⟩ | ⟨rfl, rfl⟩ <;> omega
  have hA : opI .add .u64 a (IntKind.u64.wrap k) = a + k := by
    show IntKind.u64.wrap (a + IntKind.u64.wrap k) = _
    rw [w_u64, w_u64]; omega
  rw [hA] at h0 ⊢
  obtain ⟨_, b', l', g1, g2⟩ := rd_some h0
  have g3 := inr_iff.1 g2
  rw [(rd_one hf' g1 g2).2]
  rcases h4 b' l' g1 with ⟨rfl, rfl⟩ | ⟨hne, g4⟩
  · rw [putL_len] at g3
    have hj : a + k - b' = (((a + k - b').toNat : Nat) : Int) := by omega
    rw [hj, gt_putL (hr _ _ h1) _ _ _ _ (by omega), ← hj]
    by_cases hin : 0 ≤ k ∧ k < n
    · rw [if_pos (by omega), if_pos hin]
      congr 1
      omega
    · rw [if_neg (by omega), if_neg hin]
      exact ((rd_one hf h1 (inr_iff.2 g3)).2).symm
  · rw [(rd_one hf g4 g2).2, if_neg (fun hin => hne (row_same hf g4 h1 g2 (inr_iff.2 (by omega))))]
/-- A byte, masked. -/
theorem byte_and {v : Int} (hv : inK .u64 v = true) (k : Nat) (hk : k < 8) : opI .and .u64 (opI .shr .u64 v (opI .mul .i64 8 (k : Int))) 255 = byteK v k := by
  have h1 := in_u64 hv
  have e : opI .mul .i64 8 (k : Int) = ((8 * k : Nat) : Int) := by
    show IntKind.i64.wrap (8 * (k : Int)) = _
    rw [wrI (by omega) (by omega)]; omega
  obtain ⟨n, rfl⟩ := Int.eq_ofNat_of_zero_le h1.1
  have e2 : opI .shr .u64 (n : Int) ((8 * k : Nat) : Int) = ((n / 2 ^ (8 * k) : Nat) : Int) := by
    show (n : Int).fdiv (2 ^ min (((8 * k : Nat) : Int)).toNat 64) = _
    rw [show min (((8 * k : Nat) : Int)).toNat 64 = 8 * k by omega, Int.fdiv_eq_ediv_of_nonneg _ (Int.le_of_lt (Int.pow_pos (by decide)))]
    rw [Int.natCast_ediv, Int.natCast_pow]; rfl
  have hle : n / 2 ^ (8 * k) ≤ n := Nat.div_le_self _ _
  unfold byteK
  rw [e, e2]
  show bits .and .u64 _ _ = _
  rw [show (255 : Int) = ((2 ^ 8 - 1 : Nat) : Int) from rfl, u64_and_nat _ _ (by omega) (by decide), Nat.and_two_pow_sub_one_eq_mod]
  show _ = IntKind.u8.wrap _
  rw [show IntKind.u8.wrap ((n / 2 ^ (8 * k) : Nat) : Int) = ((n / 2 ^ (8 * k) : Nat) : Int) % 256 by simp [IntKind.wrap, IntKind.bits, IntKind.signed]]
  omega
/-- A step of the number put together from single bytes. -/
theorem want_step {m : Mem} (hf : m.Lim) {b : Int} {l : List (List Int)} {a n : Int} (h : m.Row b l) (hi : inr b l a n = true) (hr : RowsIn [some .u8] l) (ha : inK .u64 a = true) (hn1 : 1 ≤ n) (hn8 : n ≤ 8) {k : Nat} (hk : k < n.toNat) :
    opI .or .u64 (opI .shl .u64 (numL ((winL b l a n).drop (k + 1))) 8) (rdV m (opI .add .u64 a (IntKind.u64.wrap (k : Int))) 1) = numL ((winL b l a n).drop k) := by
  have hlim := h.lim hf
  have hi' := inr_iff.1 hi
  have hl : l.length ≤ 1048576 := by omega
  have W := Win.of hi ha hlim.1 hl hn1 hn8
  have hA : opI .add .u64 a (IntKind.u64.wrap (k : Int)) = a + k := by
    rw [wrU (a := (k : Int)) (by omega) (by omega)]
    exact wrU (by omega) (by omega)
  have h1 : inr b l (a + k) 1 = true := inr_iff.2 (by omega)
  rw [hA, (rd_one hf h h1).2, ← W.step hl hr hk, (W.byte hl hk).1, show a + (k : Int) - b = a - b + k by omega, wrU (byte_gt hr _).1 (by have := (byte_gt hr (a - b + k)).2; omega)]
theorem ft_all {y c f s : List (List Int)} (hy : y.length ≤ 16384) : (ftE (memB y c f s) 1048576 == 0) = decide ((0 : Int) < (y.length : Int)) ∧ ftL (memB y c f s) 1048576 = y := by
  unfold ftE ftL
  have e : inr (memB y c f s).b0 (memB y c f s).l0 1048576 1 = decide ((0 : Int) < (y.length : Int)) := by
    show (decide ((1048576 : Int) ≤ 1048576) && decide ((1048576 : Int) - 1048576 + 1 ≤ (y.length : Int))) = _
    rw [decide_eq_true (by omega), Bool.true_and, Bool.eq_iff_iff, decide_eq_true_eq, decide_eq_true_eq]; omega
  rw [e]
  cases y with
  | nil => exact ⟨rfl, rfl⟩
  | cons r y =>
    rw [decide_eq_true (by simp)]
    exact ⟨rfl, rfl⟩
end Go.Proofs.Ytmabagpagmcnlaa
