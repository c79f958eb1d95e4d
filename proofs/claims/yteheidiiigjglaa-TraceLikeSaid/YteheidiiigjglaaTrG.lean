/- The walks of the reference's Great and GreatAll. -/
import Derived.Test.YteheidiiigjglaaTrO
namespace Go.Proofs.Yteheidiiigjglaa
open Go.RowKit

set_option maxHeartbeats 2000000 in
theorem Great_any (o : Oc) (v : Value) (W w : World) (hx : Ext W w) (h : OcV w v o) :
    Calls Try.prog 20 #[v] w fun e w' => e = .returned (.bool (zgreat o)) ∧ Ext W w' := by
  obtain ⟨cv, tv, rfl, hc, ht, _⟩ := h
  obtain ⟨oa, ca, rfl, la, ma, na, _⟩ := hc
  obtain ⟨ob, cb, rfl, lb, mb, nb, ht⟩ := ht
  have la' : o.ctx.length ≤ 9223372036854775807 := by unfold maxLen at ma; omega
  have lb' : o.tr.length ≤ 9223372036854775807 := by unfold maxLen at mb; omega
  have HT := hide ht
  clear ht la lb ma mb na nb
  have hxa : ∀ A, Ext W (w.alloc A) := fun A => hx.alloc A
  have HX := hide hxa
  clear hxa
  by_cases g1 : 100 < o.tr.length
  · have hz : zgreat o = true := by simp [zgreat, g1]
    rw [hz]
    clear hz
    go_enter Try.func20, Try.ntmps20
    go_wp2_with fail
    go_ret
    exact ⟨rfl, HX.out _⟩
  · by_cases g2 : 1000 < o.ctx.length
    · have hz : zgreat o = true := by simp [zgreat, g2]
      rw [hz]
      clear hz
      go_enter Try.func20, Try.ntmps20
      go_wp2_with fail
      go_ret
      exact ⟨rfl, HX.out _⟩
    · have hz : zgreat o = o.tr.any (fun e => decide (20 < e.args.length)) := by simp [zgreat, g1, g2]
      rw [hz]
      clear hz
      go_enter Try.func20, Try.ntmps20
      go_wp2_with fail
      go_loop [3] (fun i => ∃ k : Nat, i = .int .i64 k ∧ k ≤ o.tr.length ∧ ∀ j, j < k → decide (20 < (o.tr.getD j default).args.length) = false) (fun i => o.tr.length - (intOf i).toNat)
      case atStart => exact ⟨0, rfl, by omega, fun j hj => absurd hj (by omega)⟩
      case round =>
        obtain ⟨k, rfl, hk, hno⟩ := hrel
        have HN := hide hno
        clear hno
        by_cases hlt : k < o.tr.length
        · obtain ⟨b1, o1, rfl, c1⟩ := HT.out (by omega)
          obtain ⟨av, x1, x2, x3, oc, cc, rfl, lc, mc, _, _⟩ := c1 k hlt
          have lc' : (o.tr.getD k default).args.length ≤ 9223372036854775807 := by unfold maxLen at mc; omega
          have HA := hide (any_at (q := fun e => decide (20 < e.args.length)) hlt)
          obtain ⟨X, hX⟩ : ∃ X, o.tr.getD k default = X := ⟨_, rfl⟩
          rw [hX] at x1 x2 x3 lc' HA
          have x2' : ∀ A, (w.alloc A).cell? ⟨b1, o1 + k * 3 + 1, none⟩ = some (.slice oc X.args.length cc) := fun A => ((Ext.refl w).alloc A).cell x2
          have HXX := hide hX
          clear c1 x1 x3 x2 lc mc hX
          by_cases g3 : 20 < X.args.length
          · go_wp2_with fail
            go_ret
            exact ⟨by rw [HA.out (by simp [g3])]; rfl, HX.out _⟩
          · go_wp2_with fail
            go_round
            case rel => exact ⟨k + 1, by go_num, by omega, fun j hj => by
              by_cases hjk : j < k
              · exact HN.out j hjk
              · obtain rfl : j = k := by omega
                rw [HXX.out]; simp; omega⟩
            case measure => simp [intOf]; omega
        · go_wp2_with fail
          go_ret
          refine ⟨?_, HX.out _⟩
          rw [any_none (fun i hi => HN.out i (by omega))]; rfl

theorem OcV.only (w : World) (tv : Value) (l : List Ev) (h : SlE w tv l) : OcV w (.agg #[.int .i8 0, .int .u64 0, .slice none 0 0, tv, .int .i64 0]) ⟨0, 0, [], l, 0⟩ :=
  ⟨_, _, rfl, SlI.nil _ _, h, by simp⟩
set_option maxHeartbeats 2000000 in
theorem GreatAll_any (l : List Ev) (v : Value) (W w : World) (hx : Ext W w) (h : SlE w v l) :
    Calls Try.prog 15 #[v] w fun e w' => e = .returned (.bool (zgreat ⟨0, 0, [], l, 0⟩)) ∧ Ext W w' := by
  have hO := OcV.only w v l h
  obtain ⟨ob, cb, rfl, _⟩ := h
  go_enter Try.func15, Try.ntmps15
  go_wp2_with (go_at_call 20; refine (Great_any _ _ W w hx hO).mono ?_; rintro e w' ⟨rfl, hx'⟩)
  go_ret
  exact ⟨rfl, hx'⟩
end Go.Proofs.Yteheidiiigjglaa
