/- The walks of the reference's comparisons of words, events, traces. -/
import Derived.Test.YteheidiiigjglaaTrG
namespace Go.Proofs.Yteheidiiigjglaa
open Go.RowKit

theorem ne_off {α : Type} [DecidableEq α] {a b : List α} {d : α} {k : Nat} (hne : a.getD k d ≠ b.getD k d) : decide (a = b) = false := by
  rw [decide_eq_false_iff_not]; rintro rfl; exact hne rfl
theorem eq_all {α : Type} [DecidableEq α] {a b : List α} {k : Nat} (hl : a.length = b.length) (hk : a.length ≤ k) (h : a.take k = b.take k) : decide (a = b) = true := by
  rw [decide_eq_true_iff]
  rw [List.take_of_length_le hk, List.take_of_length_le (by omega)] at h
  exact h

set_option maxHeartbeats 1000000 in
theorem words_any (sa sb : Value) (a b : List Int) (w : World) (ha : SlI .u64 w sa a) (hb : SlI .u64 w sb b) :
    Calls Try.prog 61 #[sa, sb] w fun e w' => e = .returned (.bool (decide (a = b))) ∧ Ext w w' := by
  obtain ⟨oa, ca, rfl, la, ma, na, ha⟩ := ha
  obtain ⟨ob, cb, rfl, lb, mb, nb, hb⟩ := hb
  have la' : a.length ≤ 9223372036854775807 := by unfold maxLen at ma; omega
  have lb' : b.length ≤ 9223372036854775807 := by unfold maxLen at mb; omega
  have HA := hide ha
  have HB := hide hb
  clear ha hb la lb ma mb na nb
  by_cases hl : a.length = b.length
  · have hdl : ((a.length : Int) != (b.length : Int)) = false := by simp [hl]
    have hdl' : (a.length != b.length) = false := by simp [hl]
    have HL := hide hl
    go_enter Try.func61, Try.ntmps61
    go_wp2_with fail
    go_loopw [5] (fun i wr => ∃ k : Nat, i = .int .i64 k ∧ Ext w wr ∧ k ≤ a.length ∧ a.take k = b.take k) (fun i _ => a.length - (intOf i).toNat)
    case atStart => exact ⟨0, rfl, Ext.refl _, by omega, by simp⟩
    case round =>
      obtain ⟨k, rfl, hxr, hk, htk⟩ := hrel
      have HT := hide htk
      clear htk
      by_cases hlt : k < a.length
      · have hlb : k < b.length := by omega
        obtain ⟨b1, o1, rfl, c1⟩ := HA.out (by omega)
        obtain ⟨b2, o2, rfl, c2⟩ := HB.out (by omega)
        have d1 := hxr.cell (c1 k hlt)
        have d2 := hxr.cell (c2 k hlb)
        clear c1 c2
        have i0 : (0 : Int) ≤ (k : Int) := by omega
        have i1 : (k : Int) < (a.length : Int) := by omega
        have i2 : (k : Int) < (b.length : Int) := by omega
        by_cases he : a.getD k 0 = b.getD k 0
        · have hts := take_same hlt hlb HT.out he
          have HTS := hide hts
          rw [← he] at d2
          obtain ⟨X, hX⟩ : ∃ X, a.getD k 0 = X := ⟨_, rfl⟩
          rw [hX] at d1 d2
          clear hts he hX hl hdl hdl'
          go_wp2_with fail
          go_quiet (fail)
          go_wp2_with fail
          go_roundw
          case rel => exact ⟨k + 1, by go_num, hxr.drewN _, by omega, HTS.out⟩
          case measure => simp [intOf]; omega
        · have hp := ne_off he
          have HP := hide hp
          obtain ⟨X, hX⟩ : ∃ X, a.getD k 0 = X := ⟨_, rfl⟩
          obtain ⟨Y, hY⟩ : ∃ Y, b.getD k 0 = Y := ⟨_, rfl⟩
          rw [hX] at d1 he
          rw [hY] at d2 he
          have hne : (X != Y) = true := by simpa using he
          clear hp he hX hY hl hdl hdl'
          go_wp2_with fail
          go_quiet (fail)
          go_wp2_with fail
          go_ret
          exact ⟨by rw [HP.out]; rfl, hxr.drewN _⟩
      · clear hdl hdl' hl
        go_wp2_with fail
        go_ret
        exact ⟨by rw [eq_all HL.out (by omega) HT.out]; rfl, hxr⟩
  · have hp : decide (a = b) = false := by rw [decide_eq_false_iff_not]; rintro rfl; exact hl rfl
    have HP := hide hp
    have hdl : ((a.length : Int) != (b.length : Int)) = true := by simp; omega
    have hdl' : (a.length != b.length) = true := by simpa using hl
    clear hp hl
    go_enter Try.func61, Try.ntmps61
    go_wp2_with fail
    go_ret
    exact ⟨by rw [HP.out]; rfl, Ext.refl _⟩

theorem ev_dec' (e1 e2 : Ev) : decide (e1 = e2) = ((e1.num == e2.num) && ((e1.ans == e2.ans) && decide (e1.args = e2.args))) := by
  cases e1; cases e2
  rw [Bool.eq_iff_iff]
  simp
  intro _
  exact And.comm

set_option maxHeartbeats 1000000 in
theorem rEvent_any (e1 e2 : Ev) (v1 v2 : Value) (w : World) (h1 : SlI .u64 w v1 e1.args) (h2 : SlI .u64 w v2 e2.args) :
    Calls Try.prog 51 #[.agg #[.int .i64 e1.num, v1, .int .u64 e1.ans], .agg #[.int .i64 e2.num, v2, .int .u64 e2.ans]] w fun e w' => e = .returned (.bool (decide (e1 = e2))) ∧ Ext w w' := by
  rw [ev_dec']
  obtain ⟨n1, a1, r1⟩ := e1
  obtain ⟨n2, a2, r2⟩ := e2
  dsimp only at h1 h2 ⊢
  have H1 := hide h1
  have H2 := hide h2
  clear h1 h2
  have hx : ∀ A B, Ext w ((w.alloc A).alloc B) := fun A B => ((Ext.refl w).alloc A).alloc B
  have HX := hide hx
  clear hx
  cases b1 : (n1 == n2)
  · rw [Bool.false_and]
    go_enter Try.func51, Try.ntmps51
    go_wp2_with fail
    go_ret
    exact ⟨rfl, HX.out _ _⟩
  · cases b2 : (r1 == r2)
    · rw [Bool.false_and, Bool.and_false]
      go_enter Try.func51, Try.ntmps51
      go_wp2_with fail
      go_ret
      exact ⟨rfl, HX.out _ _⟩
    · rw [Bool.true_and, Bool.true_and]
      go_enter Try.func51, Try.ntmps51
      go_wp2_with (go_at_call 61; refine (words_any _ _ a1 a2 _ (H1.out.ext (HX.out _ _)) (H2.out.ext (HX.out _ _))).mono ?_; rintro e w' ⟨rfl, hx'⟩)
      go_ret
      exact ⟨rfl, (HX.out _ _).trans hx'⟩

set_option maxHeartbeats 1000000 in
theorem rBegins_any (sa sb : Value) (a b : List Ev) (w : World) (ha : SlE w sa a) (hb : SlE w sb b) :
    Calls Try.prog 26 #[sa, sb] w fun e w' => e = .returned (.bool (pre a b)) ∧ Ext w w' := by
  obtain ⟨oa, ca, rfl, la, ma, na, ha⟩ := ha
  obtain ⟨ob, cb, rfl, lb, mb, nb, hb⟩ := hb
  have la' : a.length ≤ 9223372036854775807 := by unfold maxLen at ma; omega
  have lb' : b.length ≤ 9223372036854775807 := by unfold maxLen at mb; omega
  have HA := hide ha
  have HB := hide hb
  clear ha hb la lb ma mb na nb
  by_cases hl : a.length ≤ b.length
  · have hdl : decide (b.length < a.length) = false := by simp; omega
    go_enter Try.func26, Try.ntmps26
    go_wp2_with fail
    go_loopw [5] (fun i wr => ∃ k : Nat, i = .int .i64 k ∧ Ext w wr ∧ k ≤ a.length ∧ a.take k = b.take k) (fun i _ => a.length - (intOf i).toNat)
    case atStart => exact ⟨0, rfl, Ext.refl _, by omega, by simp⟩
    case round =>
      obtain ⟨k, rfl, hxr, hk, htk⟩ := hrel
      have HT := hide htk
      clear htk
      by_cases hlt : k < a.length
      · have hlb : k < b.length := by omega
        obtain ⟨b1, o1, rfl, c1⟩ := HA.out (by omega)
        obtain ⟨b2, o2, rfl, c2⟩ := HB.out (by omega)
        obtain ⟨v1, x1, x2, x3, x4⟩ := (c1 k hlt).ext hxr
        obtain ⟨v2, y1, y2, y3, y4⟩ := (c2 k hlb).ext hxr
        clear c1 c2
        have i0 : (0 : Int) ≤ (k : Int) := by omega
        have i1 : (k : Int) < (a.length : Int) := by omega
        have i2 : (k : Int) < (b.length : Int) := by omega
        have X4 := hide x4
        have Y4 := hide y4
        clear x4 y4
        by_cases he : a.getD k default = b.getD k default
        · have hts := take_same hlt hlb HT.out he
          have HTS := hide hts
          have hd : decide (a.getD k default = b.getD k default) = true := decide_eq_true he
          obtain ⟨X, hX⟩ : ∃ X, a.getD k default = X := ⟨_, rfl⟩
          obtain ⟨Y, hY⟩ : ∃ Y, b.getD k default = Y := ⟨_, rfl⟩
          rw [hX] at x1 x3 hd X4
          rw [hY] at y1 y3 hd Y4
          clear hts he hX hY
          go_wp2_with fail
          go_region_held3 (fun w' => Ext wr w' ∧ w'.cell? ⟨b1, o1 + k * 3, none⟩ = some (.int .i64 X.num) ∧ w'.cell? ⟨b1, o1 + k * 3 + 1, none⟩ = some v1 ∧ w'.cell? ⟨b1, o1 + k * 3 + 2, none⟩ = some (.int .u64 X.ans) ∧
              w'.cell? ⟨b2, o2 + k * 3, none⟩ = some (.int .i64 Y.num) ∧ w'.cell? ⟨b2, o2 + k * 3 + 1, none⟩ = some v2 ∧ w'.cell? ⟨b2, o2 + k * 3 + 2, none⟩ = some (.int .u64 Y.ans))
            (first | exact ⟨Ext.refl _, x1, x2, x3, y1, y2, y3⟩ | exact ⟨(Ext.refl _).drew, x1, x2, x3, y1, y2, y3⟩ | assumption | exact ⟨((Ext.refl _).drew).trans hx', hx'.cell x1, hx'.cell x2, hx'.cell x3, hx'.cell y1, hx'.cell y2, hx'.cell y3⟩ | go_keep)
            (first | (go_at_call 51; refine (rEvent_any X Y v1 v2 _ (X4.out.ext ((Ext.refl _).drew)) (Y4.out.ext ((Ext.refl _).drew))).mono ?_; rintro e w' ⟨rfl, hx'⟩))
          go_wp2_with fail
          go_roundw
          case rel => exact ⟨k + 1, by go_num, hxr.trans (((Ext.refl _).drew).trans hx'), by omega, HTS.out⟩
          case measure => simp [intOf]; omega
        · have hp := pre_off hlt hl he
          have HP := hide hp
          have hd : decide (a.getD k default = b.getD k default) = false := decide_eq_false he
          obtain ⟨X, hX⟩ : ∃ X, a.getD k default = X := ⟨_, rfl⟩
          obtain ⟨Y, hY⟩ : ∃ Y, b.getD k default = Y := ⟨_, rfl⟩
          rw [hX] at x1 x3 hd X4
          rw [hY] at y1 y3 hd Y4
          clear hp he hX hY
          go_wp2_with fail
          go_region_held3 (fun w' => Ext wr w' ∧ w'.cell? ⟨b1, o1 + k * 3, none⟩ = some (.int .i64 X.num) ∧ w'.cell? ⟨b1, o1 + k * 3 + 1, none⟩ = some v1 ∧ w'.cell? ⟨b1, o1 + k * 3 + 2, none⟩ = some (.int .u64 X.ans) ∧
              w'.cell? ⟨b2, o2 + k * 3, none⟩ = some (.int .i64 Y.num) ∧ w'.cell? ⟨b2, o2 + k * 3 + 1, none⟩ = some v2 ∧ w'.cell? ⟨b2, o2 + k * 3 + 2, none⟩ = some (.int .u64 Y.ans))
            (first | exact ⟨Ext.refl _, x1, x2, x3, y1, y2, y3⟩ | exact ⟨(Ext.refl _).drew, x1, x2, x3, y1, y2, y3⟩ | assumption | exact ⟨((Ext.refl _).drew).trans hx', hx'.cell x1, hx'.cell x2, hx'.cell x3, hx'.cell y1, hx'.cell y2, hx'.cell y3⟩ | go_keep)
            (first | (go_at_call 51; refine (rEvent_any X Y v1 v2 _ (X4.out.ext ((Ext.refl _).drew)) (Y4.out.ext ((Ext.refl _).drew))).mono ?_; rintro e w' ⟨rfl, hx'⟩))
          go_wp2_with fail
          go_ret
          exact ⟨by rw [HP.out]; rfl, hxr.trans (((Ext.refl _).drew).trans hx')⟩
      · go_wp2_with fail
        go_ret
        exact ⟨by rw [pre_all hl (by have h := HT.out; rw [show k = a.length from by omega, List.take_length] at h; exact h)]; rfl, hxr⟩
  · have hp := pre_long (a := a) (b := b) (by omega)
    go_enter Try.func26, Try.ntmps26
    go_wp2_with fail
    go_ret
    exact ⟨by rw [hp]; rfl, Ext.refl _⟩

set_option maxHeartbeats 1000000 in
theorem rtraces_any (v1 v2 : Value) (a b : List Ev) (w : World) (ha : SlE w v1 a) (hb : SlE w v2 b) :
    Calls Try.prog 50 #[v1, v2] w fun e w' => e = .returned (.bool (decide (a = b))) ∧ Ext w w' := by
  rw [← pre_same]
  have HA := hide ha
  have HB := hide hb
  obtain ⟨oa, ca, rfl, la, ma, na, _⟩ := ha
  obtain ⟨ob, cb, rfl, lb, mb, nb, _⟩ := hb
  have la' : a.length ≤ 9223372036854775807 := by unfold maxLen at ma; omega
  have lb' : b.length ≤ 9223372036854775807 := by unfold maxLen at mb; omega
  clear la lb ma mb na nb
  by_cases g : a.length = b.length
  · have b3 : ((a.length : Int) == (b.length : Int)) = true := by simp [g]
    have b4 : (a.length == b.length) = true := by simp [g]
    have fin : (decide (a.length = b.length) && pre a b) = pre a b := by simp [g]
    rw [fin]
    clear g fin
    go_enter Try.func50, Try.ntmps50
    go_wp2_with (go_at_call 26; refine (rBegins_any _ _ a b _ HA.out HB.out).mono ?_; rintro e w' ⟨rfl, hx'⟩)
    go_ret
    exact ⟨rfl, hx'⟩
  · have b3 : ((a.length : Int) == (b.length : Int)) = false := by rw [beq_eq_false_iff_ne]; omega
    have b4 : (a.length == b.length) = false := by rw [beq_eq_false_iff_ne]; omega
    have fin : (decide (a.length = b.length) && pre a b) = false := by simp [g]
    rw [fin]
    clear g fin
    go_enter Try.func50, Try.ntmps50
    go_wp2_with fail
    go_ret
    exact ⟨rfl, Ext.refl _⟩
end Go.Proofs.Yteheidiiigjglaa
