/- Events and outcomes as data, and the walks of trace's comparisons of words. -/
import Derived.Test.YteheidiiigjglaaSl
import Derived.Test.YteheidiiigjglaaRows
import Derived.WalkLawsBesides
import Derived.Deep.RegionHeld3
namespace Go.Proofs.Yteheidiiigjglaa
open Go.RowKit

structure Ev where
  num : Int
  args : List Int
  ans : Int
  deriving DecidableEq, Inhabited
/-- The cells of one event from ⟨b, o⟩ on. -/
def EvAt (w : World) (b o : Nat) (e : Ev) : Prop :=
  ∃ av, w.cell? ⟨b, o, none⟩ = some (.int .i64 e.num) ∧ w.cell? ⟨b, o + 1, none⟩ = some av ∧ w.cell? ⟨b, o + 2, none⟩ = some (.int .u64 e.ans) ∧ SlI .u64 w av e.args
theorem EvAt.ext {w w' : World} {b o : Nat} {e : Ev} (h : EvAt w b o e) (hx : Ext w w') : EvAt w' b o e := by
  obtain ⟨av, h1, h2, h3, h4⟩ := h
  exact ⟨av, hx.cell h1, hx.cell h2, hx.cell h3, h4.ext hx⟩
/-- The value v is a slice that reads as the events l. -/
def SlE (w : World) (v : Value) (l : List Ev) : Prop :=
  ∃ oa cap, v = .slice oa l.length cap ∧ l.length ≤ cap ∧ cap ≤ maxLen ∧ (oa = none → cap = 0) ∧
    (0 < l.length → ∃ b off, oa = some ⟨b, off, none⟩ ∧ ∀ i, i < l.length → EvAt w b (off + i * 3) (l.getD i default))
theorem SlE.ext {w w' : World} {v : Value} {l : List Ev} (h : SlE w v l) (hx : Ext w w') : SlE w' v l := by
  obtain ⟨oa, cap, hv, hl, hm, hn, hc⟩ := h
  refine ⟨oa, cap, hv, hl, hm, hn, fun hp => ?_⟩
  obtain ⟨b, off, ho, hcell⟩ := hc hp
  exact ⟨b, off, ho, fun i hi => (hcell i hi).ext hx⟩
theorem SlE.nil (w : World) : SlE w (.slice none 0 0) [] := ⟨none, 0, rfl, Nat.le_refl _, by simp [maxLen], fun _ => rfl, fun h => absurd h (by simp)⟩

/-- Is a the beginning of b? -/
def pre {α : Type} [DecidableEq α] (a b : List α) : Bool := decide (a.length ≤ b.length) && decide (a = b.take a.length)
theorem pre_long {α : Type} [DecidableEq α] {a b : List α} (h : b.length < a.length) : pre a b = false := by simp [pre]; omega
theorem pre_all {α : Type} [DecidableEq α] {a b : List α} (h : a.length ≤ b.length) (he : a = b.take a.length) : pre a b = true := by simp [pre, h, ← he]
theorem pre_off {α : Type} [DecidableEq α] {a b : List α} {d : α} {k : Nat} (hk : k < a.length) (hl : a.length ≤ b.length) (hne : a.getD k d ≠ b.getD k d) : pre a b = false := by
  simp only [pre, Bool.and_eq_false_iff, decide_eq_false_iff_not]
  right
  intro e
  apply hne
  rw [e]
  simp [List.getD, List.getElem?_take, hk]
theorem take_same {α : Type} {a b : List α} {d : α} {k : Nat} (ha : k < a.length) (hb : k < b.length) (h : a.take k = b.take k) (he : a.getD k d = b.getD k d) : a.take (k + 1) = b.take (k + 1) := by
  rw [List.take_succ_eq_append_getElem ha, List.take_succ_eq_append_getElem hb, h]
  simp [List.getD, ha, hb] at he
  rw [he]
theorem pre_same {α : Type} [DecidableEq α] (a b : List α) : (decide (a.length = b.length) && pre a b) = decide (a = b) := by
  rw [Bool.eq_iff_iff]
  simp only [pre, Bool.and_eq_true, decide_eq_true_eq]
  constructor
  · rintro ⟨h1, _, h2⟩
    rw [h2, h1, List.take_length]
  · rintro rfl
    simp

set_option maxHeartbeats 400000 in
theorem same_any (a b : Int) (w : World) :
    Calls Try.prog 60 #[.int .u64 a, .int .u64 b] w fun e w' => e = .returned (.bool (a == b)) ∧ w = w' := by
  go_enter Try.func60, Try.ntmps60
  go_wp2
  go_ret
  exact ⟨rfl, rfl⟩

set_option maxHeartbeats 1000000 in
theorem beginsU_any (sa sb : Value) (a b : List Int) (W w : World) (hx : Ext W w) (ha : SlI .u64 w sa a) (hb : SlI .u64 w sb b) :
    Calls Try.prog 59 #[sa, sb, .func (.func 60) #[] #[]] w fun e w' => e = .returned (.bool (pre a b)) ∧ Ext w w' := by
  obtain ⟨oa, ca, rfl, la, ma, na, ha⟩ := ha
  obtain ⟨ob, cb, rfl, lb, mb, nb, hb⟩ := hb
  have la' : a.length ≤ 9223372036854775807 := by unfold maxLen at ma; omega
  have lb' : b.length ≤ 9223372036854775807 := by unfold maxLen at mb; omega
  have HA := hide ha
  have HB := hide hb
  clear ha hb la lb ma mb na nb
  by_cases hl : a.length ≤ b.length
  · have hdl : decide (b.length < a.length) = false := by simp; omega
    go_enter Try.func59, Try.ntmps59
    go_wp2_with fail
    go_loopw [7, 15] (fun u i wr => ∃ k : Nat, i = .int .i64 k ∧ Ext w wr ∧ k ≤ a.length ∧ a.take k = b.take k) (fun _ i _ => a.length - (intOf i).toNat)
    case atStart => exact ⟨0, rfl, Ext.refl _, by omega, by simp⟩
    case round =>
      obtain ⟨k, rfl, hxr, hk, htk⟩ := hrel
      have HT := hide htk
      clear htk
      by_cases hlt : k < a.length
      · have hlb : k < b.length := by omega
        obtain ⟨b1, o1, rfl, c1⟩ := HA.out (by omega)
        obtain ⟨b2, o2, rfl, c2⟩ := HB.out (by omega)
        have d1 := hxr.cell (c1 k hlt)
        have d2 := hxr.cell (c2 k hlb)
        clear c1 c2
        have i0 : (0 : Int) ≤ (k : Int) := by omega
        have i1 : (k : Int) < (a.length : Int) := by omega
        have i2 : (k : Int) < (b.length : Int) := by omega
        by_cases he : a.getD k 0 = b.getD k 0
        · have hts := take_same hlt hlb HT.out he
          have HTS := hide hts
          rw [← he] at d2
          obtain ⟨X, hX⟩ : ∃ X, a.getD k 0 = X := ⟨_, rfl⟩
          rw [hX] at d1 d2
          clear hts he hX
          go_wp2_with fail
          go_region_held3 (fun w' => Ext w w' ∧ w'.cell? ⟨b1, o1 + k, none⟩ = some (.int .u64 X) ∧ w'.cell? ⟨b2, o2 + k, none⟩ = some (.int .u64 X))
            (first | exact ⟨hxr, d1, d2⟩ | exact ⟨hxr.drew, d1, d2⟩ | assumption | go_keep)
            (first | (go_at_call 60; refine (same_any _ _ _).mono ?_; rintro e w' ⟨rfl, rfl⟩))
          go_wp2_with fail
          go_roundw
          case rel => exact ⟨k + 1, by go_num, hxr.drew, by omega, HTS.out⟩
          case measure => simp [intOf]; omega
        · have hp := pre_off hlt hl he
          have HP := hide hp
          obtain ⟨X, hX⟩ : ∃ X, a.getD k 0 = X := ⟨_, rfl⟩
          obtain ⟨Y, hY⟩ : ∃ Y, b.getD k 0 = Y := ⟨_, rfl⟩
          rw [hX] at d1 he
          rw [hY] at d2 he
          have hne : (X == Y) = false := by rw [beq_eq_false_iff_ne]; exact he
          clear hp he hX hY
          go_wp2_with fail
          go_region_held3 (fun w' => Ext w w' ∧ w'.cell? ⟨b1, o1 + k, none⟩ = some (.int .u64 X) ∧ w'.cell? ⟨b2, o2 + k, none⟩ = some (.int .u64 Y))
            (first | exact ⟨hxr, d1, d2⟩ | exact ⟨hxr.drew, d1, d2⟩ | assumption | go_keep)
            (first | (go_at_call 60; refine (same_any _ _ _).mono ?_; rintro e w' ⟨rfl, rfl⟩))
          go_wp2_with fail
          go_ret
          exact ⟨by rw [HP.out]; rfl, hxr.drew⟩
      · go_wp2_with fail
        go_ret
        exact ⟨by rw [pre_all hl (by have h := HT.out; rw [show k = a.length from by omega, List.take_length] at h; exact h)]; rfl, hxr⟩
  · have hp := pre_long (a := a) (b := b) (by omega)
    go_enter Try.func59, Try.ntmps59
    go_wp2_with fail
    go_ret
    exact ⟨by rw [hp]; rfl, Ext.refl _⟩
end Go.Proofs.Yteheidiiigjglaa
