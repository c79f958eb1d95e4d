/- The walks of trace's comparisons of events, traces, contexts, outcomes. -/
import Derived.Test.YteheidiiigjglaaTrA
namespace Go.Proofs.Yteheidiiigjglaa
open Go.RowKit

theorem ev_dec (e1 e2 : Ev) : decide (e1 = e2) = (decide (e1.num = e2.num) && decide (e1.ans = e2.ans) && (decide (e1.args.length = e2.args.length) && pre e1.args e2.args)) := by
  rw [pre_same]
  cases e1; cases e2
  rw [Bool.eq_iff_iff]
  simp
  constructor
  · rintro ⟨rfl, rfl, rfl⟩; simp
  · rintro ⟨⟨rfl, rfl⟩, rfl⟩; simp

set_option maxHeartbeats 1000000 in
theorem event_any (e1 e2 : Ev) (v1 v2 : Value) (w : World) (h1 : SlI .u64 w v1 e1.args) (h2 : SlI .u64 w v2 e2.args) :
    Calls Try.prog 47 #[.agg #[.int .i64 e1.num, v1, .int .u64 e1.ans], .agg #[.int .i64 e2.num, v2, .int .u64 e2.ans]] w fun e w' => e = .returned (.bool (decide (e1 = e2))) ∧ Ext w w' := by
  rw [ev_dec]
  obtain ⟨n1, a1, r1⟩ := e1
  obtain ⟨n2, a2, r2⟩ := e2
  dsimp only at h1 h2 ⊢
  have H1 := hide h1
  have H2 := hide h2
  obtain ⟨oa, ca, rfl, la, ma, na, _⟩ := h1
  obtain ⟨ob, cb, rfl, lb, mb, nb, _⟩ := h2
  have la' : a1.length ≤ 9223372036854775807 := by unfold maxLen at ma; omega
  have lb' : a2.length ≤ 9223372036854775807 := by unfold maxLen at mb; omega
  clear la lb ma mb na nb
  have hx := Ext.refl w
  by_cases g1 : n1 = n2
  · by_cases g2 : r1 = r2
    · by_cases g3 : a1.length = a2.length
      · have b1 : (n1 == n2) = true := by simpa using g1
        have b2 : (r1 == r2) = true := by simpa using g2
        have b3 : ((a1.length : Int) == (a2.length : Int)) = true := by simp [g3]
        have fin : (decide (n1 = n2) && decide (r1 = r2) && (decide (a1.length = a2.length) && pre a1 a2)) = pre a1 a2 := by simp [g1, g2, g3]
        rw [fin]
        clear g1 g2 g3 fin
        go_enter Try.func47, Try.ntmps47
        go_wp2_with (go_at_call 59; refine (beginsU_any _ _ a1 a2 w _ ((hx.alloc _).alloc _) (H1.out.ext ((hx.alloc _).alloc _)) (H2.out.ext ((hx.alloc _).alloc _))).mono ?_; rintro e w' ⟨rfl, hx'⟩)
        go_ret
        exact ⟨rfl, ((hx.alloc _).alloc _).trans hx'⟩
      · have b1 : (n1 == n2) = true := by simpa using g1
        have b2 : (r1 == r2) = true := by simpa using g2
        have b3 : ((a1.length : Int) == (a2.length : Int)) = false := by rw [beq_eq_false_iff_ne]; omega
        have fin : (decide (n1 = n2) && decide (r1 = r2) && (decide (a1.length = a2.length) && pre a1 a2)) = false := by simp [g3]
        rw [fin]
        clear g1 g2 g3 fin
        go_enter Try.func47, Try.ntmps47
        go_wp2_with fail
        go_ret
        exact ⟨rfl, (hx.alloc _).alloc _⟩
    · have b1 : (n1 == n2) = true := by simpa using g1
      have b2 : (r1 == r2) = false := by rw [beq_eq_false_iff_ne]; exact g2
      have fin : (decide (n1 = n2) && decide (r1 = r2) && (decide (a1.length = a2.length) && pre a1 a2)) = false := by simp [g2]
      rw [fin]
      clear g1 g2 fin
      go_enter Try.func47, Try.ntmps47
      go_wp2_with fail
      go_ret
      exact ⟨rfl, (hx.alloc _).alloc _⟩
  · have b1 : (n1 == n2) = false := by rw [beq_eq_false_iff_ne]; exact g1
    have fin : (decide (n1 = n2) && decide (r1 = r2) && (decide (a1.length = a2.length) && pre a1 a2)) = false := by simp [g1]
    rw [fin]
    clear g1 fin
    go_enter Try.func47, Try.ntmps47
    go_wp2_with fail
    go_ret
    exact ⟨rfl, (hx.alloc _).alloc _⟩

set_option maxHeartbeats 1000000 in
theorem beginsE_any (sa sb : Value) (a b : List Ev) (w : World) (ha : SlE w sa a) (hb : SlE w sb b) :
    Calls Try.prog 46 #[sa, sb, .func (.func 47) #[] #[]] w fun e w' => e = .returned (.bool (pre a b)) ∧ Ext w w' := by
  obtain ⟨oa, ca, rfl, la, ma, na, ha⟩ := ha
  obtain ⟨ob, cb, rfl, lb, mb, nb, hb⟩ := hb
  have la' : a.length ≤ 9223372036854775807 := by unfold maxLen at ma; omega
  have lb' : b.length ≤ 9223372036854775807 := by unfold maxLen at mb; omega
  have HA := hide ha
  have HB := hide hb
  clear ha hb la lb ma mb na nb
  by_cases hl : a.length ≤ b.length
  · have hdl : decide (b.length < a.length) = false := by simp; omega
    go_enter Try.func46, Try.ntmps46
    go_wp2_with fail
    go_loopw [7, 15] (fun u i wr => ∃ k : Nat, i = .int .i64 k ∧ Ext w wr ∧ k ≤ a.length ∧ a.take k = b.take k) (fun _ i _ => a.length - (intOf i).toNat)
    case atStart => exact ⟨0, rfl, Ext.refl _, by omega, by simp⟩
    case round =>
      obtain ⟨k, rfl, hxr, hk, htk⟩ := hrel
      have HT := hide htk
      clear htk
      by_cases hlt : k < a.length
      · have hlb : k < b.length := by omega
        obtain ⟨b1, o1, rfl, c1⟩ := HA.out (by omega)
        obtain ⟨b2, o2, rfl, c2⟩ := HB.out (by omega)
        obtain ⟨v1, x1, x2, x3, x4⟩ := (c1 k hlt).ext hxr
        obtain ⟨v2, y1, y2, y3, y4⟩ := (c2 k hlb).ext hxr
        clear c1 c2
        have i0 : (0 : Int) ≤ (k : Int) := by omega
        have i1 : (k : Int) < (a.length : Int) := by omega
        have i2 : (k : Int) < (b.length : Int) := by omega
        have X4 := hide x4
        have Y4 := hide y4
        clear x4 y4
        by_cases he : a.getD k default = b.getD k default
        · have hts := take_same hlt hlb HT.out he
          have HTS := hide hts
          have hd : decide (a.getD k default = b.getD k default) = true := decide_eq_true he
          obtain ⟨X, hX⟩ : ∃ X, a.getD k default = X := ⟨_, rfl⟩
          obtain ⟨Y, hY⟩ : ∃ Y, b.getD k default = Y := ⟨_, rfl⟩
          rw [hX] at x1 x3 hd X4
          rw [hY] at y1 y3 hd Y4
          clear hts he hX hY
          go_wp2_with fail
          go_region_held3 (fun w' => Ext wr w' ∧ w'.cell? ⟨b1, o1 + k * 3, none⟩ = some (.int .i64 X.num) ∧ w'.cell? ⟨b1, o1 + k * 3 + 1, none⟩ = some v1 ∧ w'.cell? ⟨b1, o1 + k * 3 + 2, none⟩ = some (.int .u64 X.ans) ∧
              w'.cell? ⟨b2, o2 + k * 3, none⟩ = some (.int .i64 Y.num) ∧ w'.cell? ⟨b2, o2 + k * 3 + 1, none⟩ = some v2 ∧ w'.cell? ⟨b2, o2 + k * 3 + 2, none⟩ = some (.int .u64 Y.ans))
            (first | exact ⟨Ext.refl _, x1, x2, x3, y1, y2, y3⟩ | exact ⟨(Ext.refl _).drew, x1, x2, x3, y1, y2, y3⟩ | assumption | exact ⟨((Ext.refl _).drew).trans hx', hx'.cell x1, hx'.cell x2, hx'.cell x3, hx'.cell y1, hx'.cell y2, hx'.cell y3⟩ | go_keep)
            (first | (go_at_call 47; refine (event_any X Y v1 v2 _ (X4.out.ext ((Ext.refl _).drew)) (Y4.out.ext ((Ext.refl _).drew))).mono ?_; rintro e w' ⟨rfl, hx'⟩))
          go_wp2_with fail
          go_show
          go_roundw
          case rel => exact ⟨k + 1, by go_num, hxr.trans (((Ext.refl _).drew).trans hx'), by omega, HTS.out⟩
          case measure => simp [intOf]; omega
        · have hp := pre_off hlt hl he
          have HP := hide hp
          have hd : decide (a.getD k default = b.getD k default) = false := decide_eq_false he
          obtain ⟨X, hX⟩ : ∃ X, a.getD k default = X := ⟨_, rfl⟩
          obtain ⟨Y, hY⟩ : ∃ Y, b.getD k default = Y := ⟨_, rfl⟩
          rw [hX] at x1 x3 hd X4
          rw [hY] at y1 y3 hd Y4
          clear hp he hX hY
          go_wp2_with fail
          go_region_held3 (fun w' => Ext wr w' ∧ w'.cell? ⟨b1, o1 + k * 3, none⟩ = some (.int .i64 X.num) ∧ w'.cell? ⟨b1, o1 + k * 3 + 1, none⟩ = some v1 ∧ w'.cell? ⟨b1, o1 + k * 3 + 2, none⟩ = some (.int .u64 X.ans) ∧
              w'.cell? ⟨b2, o2 + k * 3, none⟩ = some (.int .i64 Y.num) ∧ w'.cell? ⟨b2, o2 + k * 3 + 1, none⟩ = some v2 ∧ w'.cell? ⟨b2, o2 + k * 3 + 2, none⟩ = some (.int .u64 Y.ans))
            (first | exact ⟨Ext.refl _, x1, x2, x3, y1, y2, y3⟩ | exact ⟨(Ext.refl _).drew, x1, x2, x3, y1, y2, y3⟩ | assumption | exact ⟨((Ext.refl _).drew).trans hx', hx'.cell x1, hx'.cell x2, hx'.cell x3, hx'.cell y1, hx'.cell y2, hx'.cell y3⟩ | go_keep)
            (first | (go_at_call 47; refine (event_any X Y v1 v2 _ (X4.out.ext ((Ext.refl _).drew)) (Y4.out.ext ((Ext.refl _).drew))).mono ?_; rintro e w' ⟨rfl, hx'⟩))
          go_wp2_with fail
          go_ret
          exact ⟨by rw [HP.out]; rfl, hxr.trans (((Ext.refl _).drew).trans hx')⟩
      · go_wp2_with fail
        go_ret
        exact ⟨by rw [pre_all hl (by have h := HT.out; rw [show k = a.length from by omega, List.take_length] at h; exact h)]; rfl, hxr⟩
  · have hp := pre_long (a := a) (b := b) (by omega)
    go_enter Try.func46, Try.ntmps46
    go_wp2_with fail
    go_ret
    exact ⟨by rw [hp]; rfl, Ext.refl _⟩
end Go.Proofs.Yteheidiiigjglaa
