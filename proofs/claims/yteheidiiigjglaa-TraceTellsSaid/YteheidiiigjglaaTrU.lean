/- The walks of May, both. -/
import Derived.Test.YteheidiiigjglaaTrT
namespace Go.Proofs.Yteheidiiigjglaa
open Go.RowKit

def EvV (w : World) (v : Value) (x : Ev) : Prop := ∃ av, v = .agg #[.int .i64 x.num, av, .int .u64 x.ans] ∧ SlI .u64 w av x.args
theorem EvV.ext {w w' : World} {v : Value} {x : Ev} (h : EvV w v x) (hx : Ext w w') : EvV w' v x := by
  obtain ⟨av, h1, h2⟩ := h
  exact ⟨av, h1, h2.ext hx⟩
def zmay (x : Ev) : Bool := decide (0 ≤ x.num) && (decide (x.num < 16) && ((x.args.length : Int) == zargs x.num))

set_option maxHeartbeats 2000000 in
theorem may_any (x : Ev) (v : Value) (W w : World) (hx : Ext W w) (h : EvV w v x) :
    Calls Try.prog 28 #[v] w fun e w' => e = .returned (.bool (zmay x)) ∧ Ext W w' := by
  obtain ⟨av, rfl, ha⟩ := h
  obtain ⟨n, l, r⟩ := x
  obtain ⟨oa, ca, rfl, la, ma, na, _⟩ := ha
  dsimp only at la ma ⊢
  have la' : l.length ≤ 9223372036854775807 := by unfold maxLen at ma; omega
  clear la ma na
  obtain ⟨B, hB⟩ : ∃ B : Obj, B = .cells #[.int .i64 n, .slice oa l.length ca, .int .u64 r] 40 := ⟨_, rfl⟩
  have c0 : (w.alloc B).cell? ⟨w.heap.size, 0, none⟩ = some (.int .i64 n) := by rw [hB]; simp [go_sem]
  have c1 : (w.alloc B).cell? ⟨w.heap.size, 1, none⟩ = some (.slice oa l.length ca) := by rw [hB]; simp [go_sem]
  have X := hide (hx.alloc B)
  have hc : n < 0 ∨ 16 ≤ n ∨ (0 ≤ n ∧ n < 16) := by omega
  rcases hc with h | h | ⟨h1, h2⟩
  · have hz : zmay ⟨n, l, r⟩ = false := by
      have : decide (0 ≤ n) = false := by simp; omega
      simp [zmay, this]
    have hg : decide (0 ≤ n) = false := by simp; omega
    have hg' : ¬ (0 ≤ n) := by omega
    rw [hz]
    clear hz
    go_enter Try.func28, Try.ntmps28
    go_wp2_with fail
    rw [← hB]
    clear hB
    go_quiet (fail)
    go_wp2_with fail
    go_ret
    exact ⟨rfl, X.out.drewN _⟩
  · have hz : zmay ⟨n, l, r⟩ = false := by
      have : decide (n < 16) = false := by simp; omega
      simp [zmay, this]
    have hg : decide (n < 16) = false := by simp; omega
    have hg' : ¬ (n < 16) := by omega
    have hg2 : 0 ≤ n := by omega
    rw [hz]
    clear hz
    go_enter Try.func28, Try.ntmps28
    go_wp2_with fail
    rw [← hB]
    clear hB
    go_quiet (fail)
    go_wp2_with fail
    go_ret
    exact ⟨rfl, X.out.drewN _⟩
  · have hz : zmay ⟨n, l, r⟩ = ((l.length : Int) == zargs n) := by
      simp [zmay, h1, h2]
    rw [hz]
    clear hz
    go_enter Try.func28, Try.ntmps28
    go_wp2_with fail
    rw [← hB]
    clear hB
    go_region_held3 (fun w' => Ext W w' ∧ w'.cell? ⟨w.heap.size, 0, none⟩ = some (.int .i64 n) ∧ w'.cell? ⟨w.heap.size, 1, none⟩ = some (.slice oa l.length ca))
      (first | exact ⟨X.out, c0, c1⟩ | exact ⟨X.out.drew, c0, c1⟩ | assumption | go_keep)
      (first | (go_at_call 52; refine (args_any _ _).mono ?_; rintro e w' ⟨rfl, rfl⟩))
    go_wp2_with fail
    go_ret
    exact ⟨rfl, by first | assumption | exact X.out.drew⟩

set_option maxHeartbeats 2000000 in
theorem rmay_any (x : Ev) (v : Value) (W w : World) (hx : Ext W w) (h : EvV w v x) :
    Calls Try.prog 29 #[v] w fun e w' => e = .returned (.bool (zmay x)) ∧ Ext W w' := by
  obtain ⟨av, rfl, ha⟩ := h
  obtain ⟨n, l, r⟩ := x
  obtain ⟨oa, ca, rfl, la, ma, na, _⟩ := ha
  dsimp only at la ma ⊢
  have la' : l.length ≤ 9223372036854775807 := by unfold maxLen at ma; omega
  clear la ma na
  obtain ⟨B, hB⟩ : ∃ B : Obj, B = .cells #[.int .i64 n, .slice oa l.length ca, .int .u64 r] 40 := ⟨_, rfl⟩
  have c0 : (w.alloc B).cell? ⟨w.heap.size, 0, none⟩ = some (.int .i64 n) := by rw [hB]; simp [go_sem]
  have c1 : (w.alloc B).cell? ⟨w.heap.size, 1, none⟩ = some (.slice oa l.length ca) := by rw [hB]; simp [go_sem]
  have X := hide (hx.alloc B)
  have hc : n < 0 ∨ 16 ≤ n ∨ (0 ≤ n ∧ n < 16) := by omega
  rcases hc with h | h | ⟨h1, h2⟩
  · have hz : zmay ⟨n, l, r⟩ = false := by
      have : decide (0 ≤ n) = false := by simp; omega
      simp [zmay, this]
    have hg : decide (0 ≤ n) = false := by simp; omega
    have hg' : ¬ (0 ≤ n) := by omega
    rw [hz]
    clear hz
    go_enter Try.func29, Try.ntmps29
    go_wp2_with fail
    rw [← hB]
    clear hB
    go_quiet (fail)
    go_wp2_with fail
    go_ret
    exact ⟨rfl, X.out.drewN _⟩
  · have hz : zmay ⟨n, l, r⟩ = false := by
      have : decide (n < 16) = false := by simp; omega
      simp [zmay, this]
    have hg : decide (n < 16) = false := by simp; omega
    have hg' : ¬ (n < 16) := by omega
    have hg2 : 0 ≤ n := by omega
    rw [hz]
    clear hz
    go_enter Try.func29, Try.ntmps29
    go_wp2_with fail
    rw [← hB]
    clear hB
    go_quiet (fail)
    go_wp2_with fail
    go_ret
    exact ⟨rfl, X.out.drewN _⟩
  · have hz : zmay ⟨n, l, r⟩ = ((l.length : Int) == zargs n) := by
      simp [zmay, h1, h2]
    rw [hz]
    clear hz
    go_enter Try.func29, Try.ntmps29
    go_wp2_with fail
    rw [← hB]
    clear hB
    go_region_held3 (fun w' => Ext W w' ∧ w'.cell? ⟨w.heap.size, 0, none⟩ = some (.int .i64 n) ∧ w'.cell? ⟨w.heap.size, 1, none⟩ = some (.slice oa l.length ca))
      (first | exact ⟨X.out, c0, c1⟩ | exact ⟨X.out.drew, c0, c1⟩ | assumption | go_keep)
      (first | (go_at_call 53; refine (rargs_any _ _).mono ?_; rintro e w' ⟨rfl, rfl⟩))
    go_wp2_with fail
    go_ret
    exact ⟨rfl, by first | assumption | exact X.out.drew⟩
end Go.Proofs.Yteheidiiigjglaa
