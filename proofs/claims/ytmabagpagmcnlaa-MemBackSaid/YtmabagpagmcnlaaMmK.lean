/- Memories of four regions: the steps of the acts, as the run asks for them. No walk is in here. -/
import Derived.Test.YtmabagpagmcnlaaMmJ
set_option linter.unusedSimpArgs false
set_option linter.unusedVariables false
set_option linter.unusedVariables false
set_option linter.unusedSimpArgs false
namespace Go.Proofs.Ytmabagpagmcnlaa
open Go Go.RowKit

theorem within1 {X : Nat} {y c f s : List (List Int)} (h : LimB X y c f s) {a n : Int} (ha : inK .u64 a = true) (hn1 : 1 ≤ n) (hn8 : n ≤ 8) (h0 : decide (0 < rgn a X y.length true) = true) :
    (rgn a X y.length true == rgn (opI .add .u64 a (IntKind.u64.wrap (opI .sub .i64 n 1))) X y.length true) = decide ((memB y c f s).reg a n ≠ 0) := by
  obtain ⟨h1, h2⟩ := reg_rgn h ha hn1 hn8
  have h0 := of_decide_eq_true h0
  by_cases hr : (memB y c f s).reg a n = 0
  · rw [decide_eq_false (by simp [hr])]
    exact Bool.eq_false_iff.2 fun he => h2 hr h0 (eqI he).symm
  · rw [decide_eq_true hr]
    exact beq_iff_eq.2 (h1 hr).2.2.symm
theorem within0 {X : Nat} {y c f s : List (List Int)} (h : LimB X y c f s) {a n : Int} (ha : inK .u64 a = true) (hn1 : 1 ≤ n) (hn8 : n ≤ 8) (h0 : decide (0 < rgn a X y.length true) = false) : false = decide ((memB y c f s).reg a n ≠ 0) := by
  obtain ⟨h1, h2⟩ := reg_rgn h ha hn1 hn8
  have h0 := of_decide_eq_false h0
  by_cases hr : (memB y c f s).reg a n = 0
  · rw [decide_eq_false (by simp [hr])]
  · exact absurd (h1 hr).2.1 h0
/-- What the cut behind a write says. -/
structure AfterW (X : Nat) (y c f s c' f' s' : List (List Int)) (a n v e : Int) : Prop where
  lim : LimB X y c' f' s'
  w : (2 ≤ (memB y c f s).reg a n ∧ e = 0 ∧ Put (memB y c f s) (memB y c' f' s') a n v) ∨ ((memB y c f s).reg a n < 2 ∧ e = 20 ∧ c' = c ∧ f' = f ∧ s' = s)
theorem AfterW.none {X : Nat} {y c f s : List (List Int)} (h : LimB X y c f s) {a n v : Int} (h1 : inr 2097152 c a n = false) (h2 : inr 3145728 f a n = false) (h3 : inr 4194304 s a n = false) : AfterW X y c f s c f s a n v 20 :=
  ⟨h, .inr ⟨by
    have e1 : inr (memB y c f s).b1 (memB y c f s).l1 a n = false := h1
    have e2 : inr (memB y c f s).b2 (memB y c f s).l2 a n = false := h2
    have e3 : inr (memB y c f s).b3 (memB y c f s).l3 a n = false := h3
    unfold Mem.reg
    rw [e1, e2, e3]
    split <;> decide, rfl, rfl, rfl, rfl⟩⟩
theorem AfterW.c {X : Nat} {y c f s : List (List Int)} (h : LimB X y c f s) {a n v : Int} (hn : 1 ≤ n) (hi : inr 2097152 c a n = true) : AfterW X y c f s (putL c (a - 2097152).toNat v n.toNat) f s a n v 0 := by
  have hi' := inr_iff.1 hi
  refine ⟨⟨h.x, h.y, by rw [putL_len, h.c], h.f, h.s⟩, .inl ⟨?_, rfl, ⟨2097152, c, .inr (.inl ⟨rfl, rfl⟩), hi, .inr (.inl ⟨rfl, rfl⟩), fun b' l' hr => ?_⟩⟩⟩
  · have := reg_cases (memB y c f s) a n
    simp only [memB] at this ⊢
    have := h.y
    omega
  · rcases hr with ⟨rfl, rfl⟩ | ⟨rfl, rfl⟩ | ⟨rfl, rfl⟩ | ⟨rfl, rfl⟩
    · exact .inr ⟨by simp [memB], .inl ⟨rfl, rfl⟩⟩
    · exact .inl ⟨rfl, rfl⟩
    · exact .inr ⟨by simp [memB], .inr (.inr (.inl ⟨rfl, rfl⟩))⟩
    · exact .inr ⟨by simp [memB], .inr (.inr (.inr ⟨rfl, rfl⟩))⟩
theorem AfterW.f {X : Nat} {y c f s : List (List Int)} (h : LimB X y c f s) {a n v : Int} (hn : 1 ≤ n) (hi : inr 3145728 f a n = true) : AfterW X y c f s c (putL f (a - 3145728).toNat v n.toNat) s a n v 0 := by
  have hi' := inr_iff.1 hi
  refine ⟨⟨h.x, h.y, h.c, by rw [putL_len, h.f], h.s⟩, .inl ⟨?_, rfl, ⟨3145728, f, .inr (.inr (.inl ⟨rfl, rfl⟩)), hi, .inr (.inr (.inl ⟨rfl, rfl⟩)), fun b' l' hr => ?_⟩⟩⟩
  · have := reg_cases (memB y c f s) a n
    simp only [memB] at this ⊢
    have := h.y
    have := h.c
    have := h.x
    omega
  · rcases hr with ⟨rfl, rfl⟩ | ⟨rfl, rfl⟩ | ⟨rfl, rfl⟩ | ⟨rfl, rfl⟩
    · exact .inr ⟨by simp [memB], .inl ⟨rfl, rfl⟩⟩
    · exact .inr ⟨by simp [memB], .inr (.inl ⟨rfl, rfl⟩)⟩
    · exact .inl ⟨rfl, rfl⟩
    · exact .inr ⟨by simp [memB], .inr (.inr (.inr ⟨rfl, rfl⟩))⟩
theorem AfterW.s {X : Nat} {y c f s : List (List Int)} (h : LimB X y c f s) {a n v : Int} (hn : 1 ≤ n) (hi : inr 4194304 s a n = true) : AfterW X y c f s c f (putL s (a - 4194304).toNat v n.toNat) a n v 0 := by
  have hi' := inr_iff.1 hi
  refine ⟨⟨h.x, h.y, h.c, h.f, by rw [putL_len, h.s]⟩, .inl ⟨?_, rfl, ⟨4194304, s, .inr (.inr (.inr ⟨rfl, rfl⟩)), hi, .inr (.inr (.inr ⟨rfl, rfl⟩)), fun b' l' hr => ?_⟩⟩⟩
  · have := reg_cases (memB y c f s) a n
    simp only [memB] at this ⊢
    have := h.y
    have := h.c
    have := h.x
    have := h.f
    omega
  · rcases hr with ⟨rfl, rfl⟩ | ⟨rfl, rfl⟩ | ⟨rfl, rfl⟩ | ⟨rfl, rfl⟩
    · exact .inr ⟨by simp [memB], .inl ⟨rfl, rfl⟩⟩
    · exact .inr ⟨by simp [memB], .inr (.inl ⟨rfl, rfl⟩)⟩
    · exact .inr ⟨by simp [memB], .inr (.inr (.inl ⟨rfl, rfl⟩))⟩
    · exact .inl ⟨rfl, rfl⟩
/-- A step of the bytes put. -/
theorem put_step {b : Int} {l : List (List Int)} {a n : Int} (W : Win b l a n) (hl : l.length ≤ 1048576) (v : Int) {k : Nat} (hk : k < n.toNat) :
    st (putL l (a - b).toNat v k) (opI .add .i64 (a - b) (k : Int)) 0 (IntKind.u8.wrap (opI .shr .u64 v (opI .mul .i64 8 (k : Int)))) = putL l (a - b).toNat v (k + 1) := by
  rw [(W.byte hl hk).1]
  have := W.lo
  rw [show a - b + (k : Int) = (((a - b).toNat + k : Nat) : Int) by omega]
  rfl
theorem mul8 {k : Nat} (hk : k < 8) : opI .mul .i64 8 (k : Int) = ((8 * k : Nat) : Int) := by
  show IntKind.i64.wrap (8 * (k : Int)) = _
  rw [wrI (by omega) (by omega)]; omega
theorem AfterW.rd {X : Nat} {y c f s c' f' s' : List (List Int)} {a n v e : Int} (h : AfterW X y c f s c' f' s' a n v e) (hB : LimB X y c f s) (A m : Int) : rdE (memB y c' f' s') A m = rdE (memB y c f s) A m :=
  rdE_len (by rw [h.lim.c, hB.c]) (by rw [h.lim.f, hB.f]) (by rw [h.lim.s, hB.s]) A m
theorem AfterW.rg {X : Nat} {y c f s c' f' s' : List (List Int)} {a n v e : Int} (h : AfterW X y c f s c' f' s' a n v e) (hB : LimB X y c f s) (A m : Int) : (memB y c' f' s').reg A m = (memB y c f s).reg A m :=
  reg_len (by rw [h.lim.c, hB.c]) (by rw [h.lim.f, hB.f]) (by rw [h.lim.s, hB.s]) A m
theorem memB_rows {y c f s : List (List Int)} (ry : RowsIn [some .u8] y) (rc : RowsIn [some .u8] c) (rf : RowsIn [some .u8] f) (rs : RowsIn [some .u8] s) : ∀ b l, (memB y c f s).Row b l → RowsIn [some .u8] l := by
  intro b l h
  rcases h with ⟨_, rfl⟩ | ⟨_, rfl⟩ | ⟨_, rfl⟩ | ⟨_, rfl⟩
  · exact ry
  · exact rc
  · exact rf
  · exact rs
theorem AfterW.read {X : Nat} {y c f s c' f' s' : List (List Int)} {a n v e : Int} (h : AfterW X y c f s c' f' s' a n v e) (hB : LimB X y c f s) (hr : ∀ b l, (memB y c f s).Row b l → RowsIn [some .u8] l) (hv : inK .u64 v = true) (hn1 : 1 ≤ n) (hn8 : n ≤ 8) {k : Int} (hk : -9 ≤ k) (hk2 : k < n + 9) (h0 : rdE (memB y c' f' s') (opI .add .u64 a (IntKind.u64.wrap k)) 1 = 0) :
    rdV (memB y c' f' s') (opI .add .u64 a (IntKind.u64.wrap k)) 1 = if e = 0 ∧ 0 ≤ k ∧ k < n then opI .and .u64 (opI .shr .u64 v (opI .mul .i64 8 k)) 255 else rdV (memB y c f s) (opI .add .u64 a (IntKind.u64.wrap k)) 1 := by
  rcases h.w with ⟨_, rfl, hp⟩ | ⟨_, rfl, rfl, rfl, rfl⟩
  · rw [hp.read hB.fit.lim h.lim.fit.lim hr hn1 hn8 hk hk2 h0]
    by_cases hin : 0 ≤ k ∧ k < n
    · rw [if_pos hin, if_pos ⟨rfl, hin⟩]
      obtain ⟨m, rfl⟩ := Int.eq_ofNat_of_zero_le hin.1
      exact (byte_and hv m (by omega)).symm
    · rw [if_neg hin, if_neg (fun hh => hin hh.2)]
  · rw [if_neg (fun hh => absurd hh.1 (by decide))]
theorem AfterW.whole {X : Nat} {y c f s c' f' s' : List (List Int)} {a n v e : Int} (h : AfterW X y c f s c' f' s' a n v e) (hB : LimB X y c f s) (hs : sized n = true) : (rdE (memB y c' f' s') a n == 0) = decide ((memB y c f s).reg a n ≠ 0) := by
  rw [h.rd hB]
  unfold rdE
  rw [if_pos hs]
  by_cases hr : (memB y c f s).reg a n = 0
  · rw [if_pos hr, decide_eq_false (by simp [hr])]; rfl
  · rw [if_neg hr, decide_eq_true hr]; rfl
theorem AfterW.ok {X : Nat} {y c f s c' f' s' : List (List Int)} {a n v e : Int} (h : AfterW X y c f s c' f' s' a n v e) (hB : LimB X y c f s) (ha : inK .u64 a = true) (hn1 : 1 ≤ n) (hn8 : n ≤ 8) (hr : decide ((memB y c f s).reg a n ≠ 0) = true) : (e == 0) = decide (1 < rgn a X y.length true) := by
  have hr := of_decide_eq_true hr
  rw [((reg_rgn hB ha hn1 hn8).1 hr).1]
  rcases h.w with ⟨h1, rfl, _⟩ | ⟨h1, rfl, _⟩
  · rw [decide_eq_true (by omega)]; rfl
  · rw [decide_eq_false (by omega)]; rfl
theorem AfterW.no {X : Nat} {y c f s c' f' s' : List (List Int)} {a n v e : Int} (h : AfterW X y c f s c' f' s' a n v e) (hr : decide ((memB y c f s).reg a n ≠ 0) = false) : e ≠ 0 := by
  have hr : (memB y c f s).reg a n = 0 := by simpa using hr
  rcases h.w with ⟨h1, _, _⟩ | ⟨_, rfl, _⟩
  · omega
  · decide
theorem reg_row {m : Mem} {a n : Int} (h : m.reg a n ≠ 0) : ∃ b l, m.Row b l ∧ inr b l a n = true := by
  rcases reg_cases m a n with h1 | h1 | h1 | h1 | h1
  · exact ⟨_, _, .inl ⟨rfl, rfl⟩, inr_iff.2 h1.2⟩
  · exact ⟨_, _, .inr (.inl ⟨rfl, rfl⟩), inr_iff.2 h1.2⟩
  · exact ⟨_, _, .inr (.inr (.inl ⟨rfl, rfl⟩)), inr_iff.2 h1.2⟩
  · exact ⟨_, _, .inr (.inr (.inr ⟨rfl, rfl⟩)), inr_iff.2 h1.2⟩
  · exact absurd h1.1 h
theorem AfterW.row {X : Nat} {y c f s c' f' s' : List (List Int)} {a n v e : Int} (h : AfterW X y c f s c' f' s' a n v e) (hB : LimB X y c f s) (hr : decide ((memB y c f s).reg a n ≠ 0) = true) : ∃ b l, (memB y c' f' s').Row b l ∧ inr b l a n = true :=
  reg_row (by rw [h.rg hB]; exact of_decide_eq_true hr)
theorem want_init {b : Int} {l : List (List Int)} {a n : Int} (hi : inr b l a n = true) (hn1 : 1 ≤ n) (hn8 : n ≤ 8) : [Dt.z 0, Dt.z (opI .sub .i64 n 1)] = [Dt.z (numL ((winL b l a n).drop n.toNat)), Dt.z ((n.toNat : Int) - 1)] := by
  rw [List.drop_eq_nil_of_le (by unfold winL; rw [List.length_take]; omega), sub1 (by omega) (by omega), show ((n.toNat : Nat) : Int) = n by omega]
  rfl
theorem want_next {m : Mem} (hf : m.Lim) {b : Int} {l : List (List Int)} {a n : Int} (h : m.Row b l) (hi : inr b l a n = true) (hr : RowsIn [some .u8] l) (ha : inK .u64 a = true) (hn1 : 1 ≤ n) (hn8 : n ≤ 8) {k : Nat} (hk : k + 1 ≤ n.toNat) :
    (∃ j : Nat, [Dt.z (opI .or .u64 (opI .shl .u64 (numL ((winL b l a n).drop (k + 1))) 8) (rdV m (opI .add .u64 a (IntKind.u64.wrap (((k + 1 : Nat) : Int) - 1))) 1)), Dt.z (opI .sub .i64 (((k + 1 : Nat) : Int) - 1) 1)] = [Dt.z (numL ((winL b l a n).drop j)), Dt.z ((j : Int) - 1)] ∧ j ≤ n.toNat) ∧ (opI .sub .i64 (((k + 1 : Nat) : Int) - 1) 1 + 1).toNat < (((k + 1 : Nat) : Int) - 1 + 1).toNat := by
  have e : ((k + 1 : Nat) : Int) - 1 = (k : Int) := by omega
  rw [e, want_step hf h hi hr ha hn1 hn8 (by omega), sub1 (by omega) (by omega)]
  exact ⟨⟨k, rfl, by omega⟩, by omega⟩
theorem addN1 {i m : Nat} (h : i < m) (hm : m ≤ maxLen) : opI .add .i64 (i : Int) 1 = ((i + 1 : Nat) : Int) := by
  have : maxLen ≤ 9223372036854775807 := by decide
  show IntKind.i64.wrap _ = _
  rw [wrI (by omega) (by omega)]; omega
theorem add9 {n : Int} (h1 : 1 ≤ n) (h8 : n ≤ 8) : opI .add .i64 n 9 = n + 9 := wrI (by omega) (by omega)
theorem addk {k : Int} (h1 : -9 ≤ k) (h8 : k ≤ 100) : opI .add .i64 k 1 = k + 1 := wrI (by omega) (by omega)
end Go.Proofs.Ytmabagpagmcnlaa
