/- Walks of plus, minus, without, above, below of package bounds. -/
import Derived.Test.YtcfnglbcgkappaaGreatBdB
import Derived.Deep.RegionHeld3
import Derived.Deep.RegionWith
import Derived.Deep.DeepCutAuto
import Derived.Deep.CutBlock
set_option linter.unusedVariables false
set_option linter.unusedSimpArgs false
namespace Go.Proofs.YtcfnglbcgkappaaGreat
open Go.RowKit Go.ChangeShapes Go.WideShapes

def pwlo (f : Int → Int) (lo hi v : Int) : Int := if (lo == v) = true ∧ (hi == v) = false then f (lo + 1) else lo
def pwhi (f : Int → Int) (lo hi v : Int) : Int := if (lo == v) = false ∧ (hi == v) = true then f (hi - 1) else hi
/-- A bound met with another one, strictly (l1, ahead of its wrap) or not (l); at the edge m it stays (o). -/
def pab (f g : Int → Int) (l1 l : Int) (s : Bool) (m o : Int) : Int := if s = true ∧ (l == m) = true then o else g (if s = true then f l1 else l)

theorem tup2 {k j : IntKind} {a b c d : Int} {s t : Bool} (h1 : a = c) (h2 : b = d) (h3 : s = t) : Ending.returned (.tuple #[.agg #[.int k a, .int j b], .bool s]) = Ending.returned (.tuple #[.agg #[.int k c, .int j d], .bool t]) := by rw [h1, h2, h3]

set_option maxRecDepth 100000 in
set_option maxHeartbeats 4000000 in
theorem b_plus (a b : Int) (a0 : -9223372036854775808 ≤ a) (a1 : a ≤ 9223372036854775807) (b0 : -9223372036854775808 ≤ b) (b1 : b ≤ 9223372036854775807) (W w : World) (hx : Ext W w) :
    Calls Tryz.prog 145 #[.int .i64 a, .int .i64 b] w fun e w' => e = .returned (.tuple #[.int .i64 (wrap64 (a + b)), .bool (decide (-9223372036854775808 ≤ a + b ∧ a + b ≤ 9223372036854775807))]) ∧ Ext W w' := by
  rw [← plus_fine a0 a1 b0 b1]
  go_enter Tryz.func145, Tryz.ntmps145
  go_wp2_with fail
  exact bodyPost_ret (v := .tuple #[.int .i64 (wrap64 (a + b)), .bool (decide (0 ≤ bits .and .i64 (bits .xor .i64 a (wrap64 (a + b))) (bits .xor .i64 b (wrap64 (a + b)))))]) (by simp [results, Tryz.results145, go_sem] <;> rfl) rfl ⟨rfl, hx⟩

set_option maxRecDepth 100000 in
set_option maxHeartbeats 4000000 in
theorem b_minus (a b : Int) (a0 : -9223372036854775808 ≤ a) (a1 : a ≤ 9223372036854775807) (b0 : -9223372036854775808 ≤ b) (b1 : b ≤ 9223372036854775807) (W w : World) (hx : Ext W w) :
    Calls Tryz.prog 146 #[.int .i64 a, .int .i64 b] w fun e w' => e = .returned (.tuple #[.int .i64 (wrap64 (a - b)), .bool (decide (-9223372036854775808 ≤ a - b ∧ a - b ≤ 9223372036854775807))]) ∧ Ext W w' := by
  rw [← minus_fine a0 a1 b0 b1]
  go_enter Tryz.func146, Tryz.ntmps146
  go_wp2_with fail
  exact bodyPost_ret (v := .tuple #[.int .i64 (wrap64 (a - b)), .bool (decide (0 ≤ bits .and .i64 (bits .xor .i64 a b) (bits .xor .i64 a (wrap64 (a - b)))))]) (by simp [results, Tryz.results146, go_sem] <;> rfl) rfl ⟨rfl, hx⟩

set_option maxRecDepth 100000 in
set_option maxHeartbeats 4000000 in
theorem b_uwithout (lo hi v : Int) (W w : World) (hx : Ext W w) :
    Calls Tryz.prog 90 #[.agg #[.int .u64 lo, .int .u64 hi], .int .u64 v] w fun e w' => e = .returned (.tuple #[.agg #[.int .u64 (pwlo IntKind.u64.wrap lo hi v), .int .u64 (pwhi IntKind.u64.wrap lo hi v)], .bool (!((lo == v) && (hi == v)))]) ∧ Ext W w' := by
  have hc : ((lo == v) = true ∧ (hi == v) = true) ∨ ((lo == v) = true ∧ (hi == v) = false) ∨ ((lo == v) = false ∧ (hi == v) = true) ∨ ((lo == v) = false ∧ (hi == v) = false) := by
    cases (lo == v) <;> cases (hi == v) <;> simp
  rcases hc with ⟨h1, h2⟩ | ⟨h1, h2⟩ | ⟨h1, h2⟩ | ⟨h1, h2⟩
  · rw [show pwlo IntKind.u64.wrap lo hi v = lo from by simp [pwlo, h1, h2], show pwhi IntKind.u64.wrap lo hi v = hi from by simp [pwhi, h1, h2], show (!((lo == v) && (hi == v))) = false from by rw [h1, h2]; rfl]
    go_enter Tryz.func90, Tryz.ntmps90
    go_wp2_with fail
    exact bodyPost_ret (v := .tuple #[.agg #[.int .u64 lo, .int .u64 hi], .bool false]) (by simp [results, Tryz.results90, go_sem] <;> (first | exact ⟨rfl, rfl⟩ | rfl)) rfl ⟨rfl, by (refine hx.trans ?_; with_reducible repeat (first | exact Ext.refl _ | assumption | apply Ext.alloc | (refine Ext.store1 ?_ (by simp) _)))⟩
  · rw [show pwlo IntKind.u64.wrap lo hi v = (IntKind.u64.wrap (lo + 1)) from by simp [pwlo, h1, h2], show pwhi IntKind.u64.wrap lo hi v = hi from by simp [pwhi, h1, h2], show (!((lo == v) && (hi == v))) = true from by rw [h1, h2]; rfl]
    go_enter Tryz.func90, Tryz.ntmps90
    go_wp2_with fail
    exact bodyPost_ret (v := .tuple #[.agg #[.int .u64 (IntKind.u64.wrap (lo + 1)), .int .u64 hi], .bool true]) (by simp [results, Tryz.results90, go_sem] <;> (first | exact ⟨rfl, rfl⟩ | rfl)) rfl ⟨rfl, by (refine hx.trans ?_; with_reducible repeat (first | exact Ext.refl _ | assumption | apply Ext.alloc | (refine Ext.store1 ?_ (by simp) _)))⟩
  · rw [show pwlo IntKind.u64.wrap lo hi v = lo from by simp [pwlo, h1, h2], show pwhi IntKind.u64.wrap lo hi v = (IntKind.u64.wrap (hi - 1)) from by simp [pwhi, h1, h2], show (!((lo == v) && (hi == v))) = true from by rw [h1, h2]; rfl]
    go_enter Tryz.func90, Tryz.ntmps90
    go_wp2_with fail
    exact bodyPost_ret (v := .tuple #[.agg #[.int .u64 lo, .int .u64 (IntKind.u64.wrap (hi - 1))], .bool true]) (by simp [results, Tryz.results90, go_sem] <;> (first | exact ⟨rfl, rfl⟩ | rfl)) rfl ⟨rfl, by (refine hx.trans ?_; with_reducible repeat (first | exact Ext.refl _ | assumption | apply Ext.alloc | (refine Ext.store1 ?_ (by simp) _)))⟩
  · rw [show pwlo IntKind.u64.wrap lo hi v = lo from by simp [pwlo, h1, h2], show pwhi IntKind.u64.wrap lo hi v = hi from by simp [pwhi, h1, h2], show (!((lo == v) && (hi == v))) = true from by rw [h1, h2]; rfl]
    go_enter Tryz.func90, Tryz.ntmps90
    go_wp2_with fail
    exact bodyPost_ret (v := .tuple #[.agg #[.int .u64 lo, .int .u64 hi], .bool true]) (by simp [results, Tryz.results90, go_sem] <;> (first | exact ⟨rfl, rfl⟩ | rfl)) rfl ⟨rfl, by (refine hx.trans ?_; with_reducible repeat (first | exact Ext.refl _ | assumption | apply Ext.alloc | (refine Ext.store1 ?_ (by simp) _)))⟩

set_option maxRecDepth 100000 in
set_option maxHeartbeats 4000000 in
theorem b_uabove (lo hi l h : Int) (s : Bool) (m : Int) (W w : World) (hx : Ext W w) :
    Calls Tryz.prog 92 #[.agg #[.int .u64 lo, .int .u64 hi], .agg #[.int .u64 l, .int .u64 h], .bool s, .int .u64 m] w fun e w' => e = .returned (.tuple #[.agg #[.int .u64 (pab IntKind.u64.wrap (max lo) (l + 1) l s m lo), .int .u64 hi], .bool (!(s && (l == m)))]) ∧ Ext W w' := by
  have hc : s = false ∨ (s = true ∧ (l == m) = true) ∨ (s = true ∧ (l == m) = false) := by
    cases s <;> cases (l == m) <;> simp
  rcases hc with rfl | ⟨rfl, h1⟩ | ⟨rfl, h1⟩
  · rw [show pab IntKind.u64.wrap (max lo) (l + 1) l false m lo = (max lo l) from by simp [pab], show (!(false && (l == m))) = true from rfl]
    go_enter Tryz.func92, Tryz.ntmps92
    go_wp2_with fail
    all_goals
      refine bodyPost_ret (v := .tuple #[.agg #[.int .u64 _, .int .u64 _], .bool true]) (by simp [results, Tryz.results92, go_sem] <;> (first | exact ⟨rfl, rfl⟩ | rfl)) rfl ⟨tup2 (by first | rfl | omega) (by first | rfl | omega) rfl, by (refine hx.trans ?_; with_reducible repeat (first | exact Ext.refl _ | assumption | apply Ext.alloc | (refine Ext.store1 ?_ (by simp) _)))⟩
  · rw [show pab IntKind.u64.wrap (max lo) (l + 1) l true m lo = lo from by simp [pab, h1], show (!(true && (l == m))) = false from by rw [h1]; rfl]
    go_enter Tryz.func92, Tryz.ntmps92
    go_wp2_with fail
    all_goals
      refine bodyPost_ret (v := .tuple #[.agg #[.int .u64 _, .int .u64 _], .bool false]) (by simp [results, Tryz.results92, go_sem] <;> (first | exact ⟨rfl, rfl⟩ | rfl)) rfl ⟨tup2 (by first | rfl | omega) (by first | rfl | omega) rfl, by (refine hx.trans ?_; with_reducible repeat (first | exact Ext.refl _ | assumption | apply Ext.alloc | (refine Ext.store1 ?_ (by simp) _)))⟩
  · rw [show pab IntKind.u64.wrap (max lo) (l + 1) l true m lo = (max lo (IntKind.u64.wrap (l + 1))) from by simp [pab, h1], show (!(true && (l == m))) = true from by rw [h1]; rfl]
    go_enter Tryz.func92, Tryz.ntmps92
    go_wp2_with fail
    all_goals
      refine bodyPost_ret (v := .tuple #[.agg #[.int .u64 _, .int .u64 _], .bool true]) (by simp [results, Tryz.results92, go_sem] <;> (first | exact ⟨rfl, rfl⟩ | rfl)) rfl ⟨tup2 (by first | rfl | omega) (by first | rfl | omega) rfl, by (refine hx.trans ?_; with_reducible repeat (first | exact Ext.refl _ | assumption | apply Ext.alloc | (refine Ext.store1 ?_ (by simp) _)))⟩

set_option maxRecDepth 100000 in
set_option maxHeartbeats 4000000 in
theorem b_ubelow (lo hi l h : Int) (s : Bool) (m : Int) (W w : World) (hx : Ext W w) :
    Calls Tryz.prog 93 #[.agg #[.int .u64 lo, .int .u64 hi], .agg #[.int .u64 l, .int .u64 h], .bool s, .int .u64 m] w fun e w' => e = .returned (.tuple #[.agg #[.int .u64 lo, .int .u64 (pab IntKind.u64.wrap (min hi) (h - 1) h s m hi)], .bool (!(s && (h == m)))]) ∧ Ext W w' := by
  have hc : s = false ∨ (s = true ∧ (h == m) = true) ∨ (s = true ∧ (h == m) = false) := by
    cases s <;> cases (h == m) <;> simp
  rcases hc with rfl | ⟨rfl, h1⟩ | ⟨rfl, h1⟩
  · rw [show pab IntKind.u64.wrap (min hi) (h - 1) h false m hi = (min hi h) from by simp [pab], show (!(false && (h == m))) = true from rfl]
    go_enter Tryz.func93, Tryz.ntmps93
    go_wp2_with fail
    all_goals
      refine bodyPost_ret (v := .tuple #[.agg #[.int .u64 _, .int .u64 _], .bool true]) (by simp [results, Tryz.results93, go_sem] <;> (first | exact ⟨rfl, rfl⟩ | rfl)) rfl ⟨tup2 (by first | rfl | omega) (by first | rfl | omega) rfl, by (refine hx.trans ?_; with_reducible repeat (first | exact Ext.refl _ | assumption | apply Ext.alloc | (refine Ext.store1 ?_ (by simp) _)))⟩
  · rw [show pab IntKind.u64.wrap (min hi) (h - 1) h true m hi = hi from by simp [pab, h1], show (!(true && (h == m))) = false from by rw [h1]; rfl]
    go_enter Tryz.func93, Tryz.ntmps93
    go_wp2_with fail
    all_goals
      refine bodyPost_ret (v := .tuple #[.agg #[.int .u64 _, .int .u64 _], .bool false]) (by simp [results, Tryz.results93, go_sem] <;> (first | exact ⟨rfl, rfl⟩ | rfl)) rfl ⟨tup2 (by first | rfl | omega) (by first | rfl | omega) rfl, by (refine hx.trans ?_; with_reducible repeat (first | exact Ext.refl _ | assumption | apply Ext.alloc | (refine Ext.store1 ?_ (by simp) _)))⟩
  · rw [show pab IntKind.u64.wrap (min hi) (h - 1) h true m hi = (min hi (IntKind.u64.wrap (h - 1))) from by simp [pab, h1], show (!(true && (h == m))) = true from by rw [h1]; rfl]
    go_enter Tryz.func93, Tryz.ntmps93
    go_wp2_with fail
    all_goals
      refine bodyPost_ret (v := .tuple #[.agg #[.int .u64 _, .int .u64 _], .bool true]) (by simp [results, Tryz.results93, go_sem] <;> (first | exact ⟨rfl, rfl⟩ | rfl)) rfl ⟨tup2 (by first | rfl | omega) (by first | rfl | omega) rfl, by (refine hx.trans ?_; with_reducible repeat (first | exact Ext.refl _ | assumption | apply Ext.alloc | (refine Ext.store1 ?_ (by simp) _)))⟩

set_option maxRecDepth 100000 in
set_option maxHeartbeats 4000000 in
theorem b_iwithout (lo hi v : Int) (W w : World) (hx : Ext W w) :
    Calls Tryz.prog 91 #[.agg #[.int .i64 lo, .int .i64 hi], .int .i64 v] w fun e w' => e = .returned (.tuple #[.agg #[.int .i64 (pwlo wrap64 lo hi v), .int .i64 (pwhi wrap64 lo hi v)], .bool (!((lo == v) && (hi == v)))]) ∧ Ext W w' := by
  have hc : ((lo == v) = true ∧ (hi == v) = true) ∨ ((lo == v) = true ∧ (hi == v) = false) ∨ ((lo == v) = false ∧ (hi == v) = true) ∨ ((lo == v) = false ∧ (hi == v) = false) := by
    cases (lo == v) <;> cases (hi == v) <;> simp
  rcases hc with ⟨h1, h2⟩ | ⟨h1, h2⟩ | ⟨h1, h2⟩ | ⟨h1, h2⟩
  · rw [show pwlo wrap64 lo hi v = lo from by simp [pwlo, h1, h2], show pwhi wrap64 lo hi v = hi from by simp [pwhi, h1, h2], show (!((lo == v) && (hi == v))) = false from by rw [h1, h2]; rfl]
    go_enter Tryz.func91, Tryz.ntmps91
    go_wp2_with fail
    exact bodyPost_ret (v := .tuple #[.agg #[.int .i64 lo, .int .i64 hi], .bool false]) (by simp [results, Tryz.results91, go_sem] <;> (first | exact ⟨rfl, rfl⟩ | rfl)) rfl ⟨rfl, by (refine hx.trans ?_; with_reducible repeat (first | exact Ext.refl _ | assumption | apply Ext.alloc | (refine Ext.store1 ?_ (by simp) _)))⟩
  · rw [show pwlo wrap64 lo hi v = (wrap64 (lo + 1)) from by simp [pwlo, h1, h2], show pwhi wrap64 lo hi v = hi from by simp [pwhi, h1, h2], show (!((lo == v) && (hi == v))) = true from by rw [h1, h2]; rfl]
    go_enter Tryz.func91, Tryz.ntmps91
    go_wp2_with fail
    exact bodyPost_ret (v := .tuple #[.agg #[.int .i64 (wrap64 (lo + 1)), .int .i64 hi], .bool true]) (by simp [results, Tryz.results91, go_sem] <;> (first | exact ⟨rfl, rfl⟩ | rfl)) rfl ⟨rfl, by (refine hx.trans ?_; with_reducible repeat (first | exact Ext.refl _ | assumption | apply Ext.alloc | (refine Ext.store1 ?_ (by simp) _)))⟩
  · rw [show pwlo wrap64 lo hi v = lo from by simp [pwlo, h1, h2], show pwhi wrap64 lo hi v = (wrap64 (hi - 1)) from by simp [pwhi, h1, h2], show (!((lo == v) && (hi == v))) = true from by rw [h1, h2]; rfl]
    go_enter Tryz.func91, Tryz.ntmps91
    go_wp2_with fail
    exact bodyPost_ret (v := .tuple #[.agg #[.int .i64 lo, .int .i64 (wrap64 (hi - 1))], .bool true]) (by simp [results, Tryz.results91, go_sem] <;> (first | exact ⟨rfl, rfl⟩ | rfl)) rfl ⟨rfl, by (refine hx.trans ?_; with_reducible repeat (first | exact Ext.refl _ | assumption | apply Ext.alloc | (refine Ext.store1 ?_ (by simp) _)))⟩
  · rw [show pwlo wrap64 lo hi v = lo from by simp [pwlo, h1, h2], show pwhi wrap64 lo hi v = hi from by simp [pwhi, h1, h2], show (!((lo == v) && (hi == v))) = true from by rw [h1, h2]; rfl]
    go_enter Tryz.func91, Tryz.ntmps91
    go_wp2_with fail
    exact bodyPost_ret (v := .tuple #[.agg #[.int .i64 lo, .int .i64 hi], .bool true]) (by simp [results, Tryz.results91, go_sem] <;> (first | exact ⟨rfl, rfl⟩ | rfl)) rfl ⟨rfl, by (refine hx.trans ?_; with_reducible repeat (first | exact Ext.refl _ | assumption | apply Ext.alloc | (refine Ext.store1 ?_ (by simp) _)))⟩

set_option maxRecDepth 100000 in
set_option maxHeartbeats 4000000 in
theorem b_iabove (lo hi l h : Int) (s : Bool) (m : Int) (W w : World) (hx : Ext W w) :
    Calls Tryz.prog 94 #[.agg #[.int .i64 lo, .int .i64 hi], .agg #[.int .i64 l, .int .i64 h], .bool s, .int .i64 m] w fun e w' => e = .returned (.tuple #[.agg #[.int .i64 (pab wrap64 (max lo) (l + 1) l s m lo), .int .i64 hi], .bool (!(s && (l == m)))]) ∧ Ext W w' := by
  have hc : s = false ∨ (s = true ∧ (l == m) = true) ∨ (s = true ∧ (l == m) = false) := by
    cases s <;> cases (l == m) <;> simp
  rcases hc with rfl | ⟨rfl, h1⟩ | ⟨rfl, h1⟩
  · rw [show pab wrap64 (max lo) (l + 1) l false m lo = (max lo l) from by simp [pab], show (!(false && (l == m))) = true from rfl]
    go_enter Tryz.func94, Tryz.ntmps94
    go_wp2_with fail
    all_goals
      refine bodyPost_ret (v := .tuple #[.agg #[.int .i64 _, .int .i64 _], .bool true]) (by simp [results, Tryz.results94, go_sem] <;> (first | exact ⟨rfl, rfl⟩ | rfl)) rfl ⟨tup2 (by first | rfl | omega) (by first | rfl | omega) rfl, by (refine hx.trans ?_; with_reducible repeat (first | exact Ext.refl _ | assumption | apply Ext.alloc | (refine Ext.store1 ?_ (by simp) _)))⟩
  · rw [show pab wrap64 (max lo) (l + 1) l true m lo = lo from by simp [pab, h1], show (!(true && (l == m))) = false from by rw [h1]; rfl]
    go_enter Tryz.func94, Tryz.ntmps94
    go_wp2_with fail
    all_goals
      refine bodyPost_ret (v := .tuple #[.agg #[.int .i64 _, .int .i64 _], .bool false]) (by simp [results, Tryz.results94, go_sem] <;> (first | exact ⟨rfl, rfl⟩ | rfl)) rfl ⟨tup2 (by first | rfl | omega) (by first | rfl | omega) rfl, by (refine hx.trans ?_; with_reducible repeat (first | exact Ext.refl _ | assumption | apply Ext.alloc | (refine Ext.store1 ?_ (by simp) _)))⟩
  · rw [show pab wrap64 (max lo) (l + 1) l true m lo = (max lo (wrap64 (l + 1))) from by simp [pab, h1], show (!(true && (l == m))) = true from by rw [h1]; rfl]
    go_enter Tryz.func94, Tryz.ntmps94
    go_wp2_with fail
    all_goals
      refine bodyPost_ret (v := .tuple #[.agg #[.int .i64 _, .int .i64 _], .bool true]) (by simp [results, Tryz.results94, go_sem] <;> (first | exact ⟨rfl, rfl⟩ | rfl)) rfl ⟨tup2 (by first | rfl | omega) (by first | rfl | omega) rfl, by (refine hx.trans ?_; with_reducible repeat (first | exact Ext.refl _ | assumption | apply Ext.alloc | (refine Ext.store1 ?_ (by simp) _)))⟩

set_option maxRecDepth 100000 in
set_option maxHeartbeats 4000000 in
theorem b_ibelow (lo hi l h : Int) (s : Bool) (m : Int) (W w : World) (hx : Ext W w) :
    Calls Tryz.prog 95 #[.agg #[.int .i64 lo, .int .i64 hi], .agg #[.int .i64 l, .int .i64 h], .bool s, .int .i64 m] w fun e w' => e = .returned (.tuple #[.agg #[.int .i64 lo, .int .i64 (pab wrap64 (min hi) (h - 1) h s m hi)], .bool (!(s && (h == m)))]) ∧ Ext W w' := by
  have hc : s = false ∨ (s = true ∧ (h == m) = true) ∨ (s = true ∧ (h == m) = false) := by
    cases s <;> cases (h == m) <;> simp
  rcases hc with rfl | ⟨rfl, h1⟩ | ⟨rfl, h1⟩
  · rw [show pab wrap64 (min hi) (h - 1) h false m hi = (min hi h) from by simp [pab], show (!(false && (h == m))) = true from rfl]
    go_enter Tryz.func95, Tryz.ntmps95
    go_wp2_with fail
    all_goals
      refine bodyPost_ret (v := .tuple #[.agg #[.int .i64 _, .int .i64 _], .bool true]) (by simp [results, Tryz.results95, go_sem] <;> (first | exact ⟨rfl, rfl⟩ | rfl)) rfl ⟨tup2 (by first | rfl | omega) (by first | rfl | omega) rfl, by (refine hx.trans ?_; with_reducible repeat (first | exact Ext.refl _ | assumption | apply Ext.alloc | (refine Ext.store1 ?_ (by simp) _)))⟩
  · rw [show pab wrap64 (min hi) (h - 1) h true m hi = hi from by simp [pab, h1], show (!(true && (h == m))) = false from by rw [h1]; rfl]
    go_enter Tryz.func95, Tryz.ntmps95
    go_wp2_with fail
    all_goals
      refine bodyPost_ret (v := .tuple #[.agg #[.int .i64 _, .int .i64 _], .bool false]) (by simp [results, Tryz.results95, go_sem] <;> (first | exact ⟨rfl, rfl⟩ | rfl)) rfl ⟨tup2 (by first | rfl | omega) (by first | rfl | omega) rfl, by (refine hx.trans ?_; with_reducible repeat (first | exact Ext.refl _ | assumption | apply Ext.alloc | (refine Ext.store1 ?_ (by simp) _)))⟩
  · rw [show pab wrap64 (min hi) (h - 1) h true m hi = (min hi (wrap64 (h - 1))) from by simp [pab, h1], show (!(true && (h == m))) = true from by rw [h1]; rfl]
    go_enter Tryz.func95, Tryz.ntmps95
    go_wp2_with fail
    all_goals
      refine bodyPost_ret (v := .tuple #[.agg #[.int .i64 _, .int .i64 _], .bool true]) (by simp [results, Tryz.results95, go_sem] <;> (first | exact ⟨rfl, rfl⟩ | rfl)) rfl ⟨tup2 (by first | rfl | omega) (by first | rfl | omega) rfl, by (refine hx.trans ?_; with_reducible repeat (first | exact Ext.refl _ | assumption | apply Ext.alloc | (refine Ext.store1 ?_ (by simp) _)))⟩
end Go.Proofs.YtcfnglbcgkappaaGreat
