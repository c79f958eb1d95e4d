/- The walks of package known: the small ones. -/
import Derived.Test.YtcngfmhhaleoaaaKn
import Derived.Deep.RegionHeld3
import Derived.Deep.RegionWith
set_option linter.unusedVariables false
set_option linter.unusedSimpArgs false
namespace Go.Proofs.Ytcngfmhhaleoaaa
open Go.RowKit

set_option maxHeartbeats 2000000 in
theorem kmay_any (a : Kn) (W w : World) (hx : Ext W w) :
    Calls Try.prog 100 #[.agg #[.int .u64 a.v, .int .u64 a.m]] w fun e w' => e = .returned (.bool (kmay a)) ∧ Ext W w' := by
  obtain ⟨W3, hW3⟩ : ∃ W3, W3 = (w.alloc (.cells #[.int .u64 a.v, .int .u64 a.m] 50)) := ⟨_, rfl⟩
  have x3 : Ext w W3 := by rw [hW3]; exact ((Ext.refl w).alloc _)
  have MK := hide (fun w' (h : Ext W3 w') => new1 (hW3 ▸ h))
  have hx' : Ext W3 W3 := Ext.refl _
  go_enter Try.func100, Try.ntmps100
  go_wp2_with fail
  rw [← hW3]
  clear hW3
  (try clear p0 p1 pf sz); obtain ⟨⟨p0, p1, pf⟩, sz⟩ := MK.out _ hx'
  go_wp2_with fail
  go_ret
  exact ⟨rfl, hx.trans x3⟩

set_option maxHeartbeats 1000000 in
theorem kall_any (W w : World) (hx : Ext W w) : Calls Try.prog 91 #[] w fun e w' => e = .returned (.agg #[.int .u64 kall.v, .int .u64 kall.m]) ∧ Ext W w' := by
  go_enter Try.func91, Try.ntmps91
  go_wp2_with fail
  exact bodyPost_ret (by simp [results, Try.results91, go_sem]; exact ⟨rfl, rfl⟩) rfl ⟨rfl, hx.alloc _⟩
set_option maxHeartbeats 1000000 in
theorem kone_any (v : Int) (W w : World) (hx : Ext W w) : Calls Try.prog 90 #[.int .u64 v] w fun e w' => e = .returned (.agg #[.int .u64 (kone v).v, .int .u64 (kone v).m]) ∧ Ext W w' := by
  go_enter Try.func90, Try.ntmps90
  go_wp2_with fail
  exact bodyPost_ret (by simp [results, Try.results90, go_sem]; exact ⟨rfl, rfl⟩) rfl ⟨rfl, hx.alloc _⟩

set_option maxHeartbeats 2000000 in
theorem khas_any (a : Kn) (x : Int) (W w : World) (hx : Ext W w) :
    Calls Try.prog 92 #[.agg #[.int .u64 a.v, .int .u64 a.m], .int .u64 x] w fun e w' => e = .returned (.bool (khas a x)) ∧ Ext W w' := by
  obtain ⟨W3, hW3⟩ : ∃ W3, W3 = (w.alloc (.cells #[.int .u64 a.v, .int .u64 a.m] 50)) := ⟨_, rfl⟩
  have x3 : Ext w W3 := by rw [hW3]; exact ((Ext.refl w).alloc _)
  have MK := hide (fun w' (h : Ext W3 w') => new1 (hW3 ▸ h))
  have hx' : Ext W3 W3 := Ext.refl _
  have hc : kmay a = false ∨ kmay a = true := by cases kmay a <;> simp
  rcases hc with h1 | h1
  · have hz : khas a x = false := by simp [khas, h1]
    rw [hz]; clear hz
    go_enter Try.func92, Try.ntmps92
    go_wp2_with fail
    rw [← hW3]
    clear hW3
    (try clear p0 p1 pf sz); obtain ⟨⟨p0, p1, pf⟩, sz⟩ := MK.out _ hx'
    go_wp2_with (first
      | (go_at_call 100; (with_reducible refine (kmay_any a W3 _ (by assumption)).mono ?_); rintro e w' ⟨rfl, hx'⟩; (try clear p0 p1 pf sz); obtain ⟨⟨p0, p1, pf⟩, sz⟩ := MK.out _ hx')
      | fail)
    go_ret
    exact ⟨rfl, hx.trans (x3.trans hx')⟩
  · have hz : khas a x = (bits .andNot .u64 x a.m == a.v) := by simp [khas, h1]
    rw [hz]; clear hz
    go_enter Try.func92, Try.ntmps92
    go_wp2_with fail
    rw [← hW3]
    clear hW3
    (try clear p0 p1 pf sz); obtain ⟨⟨p0, p1, pf⟩, sz⟩ := MK.out _ hx'
    go_wp2_with (first
      | (go_at_call 100; (with_reducible refine (kmay_any a W3 _ (by assumption)).mono ?_); rintro e w' ⟨rfl, hx'⟩; (try clear p0 p1 pf sz); obtain ⟨⟨p0, p1, pf⟩, sz⟩ := MK.out _ hx')
      | fail)
    go_ret
    exact ⟨rfl, hx.trans (x3.trans hx')⟩

set_option maxHeartbeats 1000000 in
theorem kmasked_any (v m : Int) (W w : World) (hx : Ext W w) : Calls Try.prog 125 #[.int .u64 v, .int .u64 m] w fun e w' => e = .returned (.agg #[.int .u64 (kmask v m).v, .int .u64 (kmask v m).m]) ∧ Ext W w' := by
  go_enter Try.func125, Try.ntmps125
  go_wp2_with fail
  exact bodyPost_ret (by simp [results, Try.results125, go_sem]; exact ⟨rfl, rfl⟩) rfl ⟨rfl, hx.alloc _⟩

set_option maxHeartbeats 2000000 in
theorem kjoin_any (a b : Kn) (W w : World) (hx : Ext W w) :
    Calls Try.prog 96 #[.agg #[.int .u64 a.v, .int .u64 a.m], .agg #[.int .u64 b.v, .int .u64 b.m]] w fun e w' => e = .returned (.agg #[.int .u64 (kjoin a b).v, .int .u64 (kjoin a b).m]) ∧ Ext W w' := by
  obtain ⟨W3, hW3⟩ : ∃ W3, W3 = (((w.alloc (.cells #[.int .u64 a.v, .int .u64 a.m] 50)).alloc (.cells #[.int .u64 b.v, .int .u64 b.m] 50)).alloc (.cells #[.int .u64 0, .int .u64 0] 50)) := ⟨_, rfl⟩
  have x3 : Ext w W3 := by rw [hW3]; exact ((((Ext.refl w).alloc _).alloc _).alloc _)
  have MK := hide (fun w' (h : Ext W3 w') => new3 (hW3 ▸ h))
  have hx' : Ext W3 W3 := Ext.refl _
  have hc : kmay a = false ∨ (kmay a = true ∧ kmay b = false) ∨ (kmay a = true ∧ kmay b = true) := by cases kmay a <;> cases kmay b <;> simp
  rcases hc with h1 | ⟨h1, h2⟩ | ⟨h1, h2⟩
  · have hz : kjoin a b = kall := by simp [kjoin, h1]
    rw [hz]; clear hz
    go_enter Try.func96, Try.ntmps96
    go_wp2_with fail
    rw [← hW3]
    clear hW3
    (try clear p0 p1 pf q0 q1 qf r0 r1 rf sz sz0 sz1); obtain ⟨⟨p0, p1, pf⟩, ⟨q0, q1, qf⟩, ⟨r0, r1, rf⟩, sz⟩ := MK.out _ hx'; have sz1 := Nat.lt_of_succ_lt sz; have sz0 := Nat.lt_of_succ_lt sz1
    go_wp2_with (first
      | (go_at_call 100; (with_reducible refine (kmay_any a W3 _ (by assumption)).mono ?_); rintro e w' ⟨rfl, hx'⟩; (try clear p0 p1 pf q0 q1 qf r0 r1 rf sz sz0 sz1); obtain ⟨⟨p0, p1, pf⟩, ⟨q0, q1, qf⟩, ⟨r0, r1, rf⟩, sz⟩ := MK.out _ hx'; have sz1 := Nat.lt_of_succ_lt sz; have sz0 := Nat.lt_of_succ_lt sz1)
      | (go_at_call 100; (with_reducible refine (kmay_any b W3 _ (by assumption)).mono ?_); rintro e w' ⟨rfl, hx'⟩; (try clear p0 p1 pf q0 q1 qf r0 r1 rf sz sz0 sz1); obtain ⟨⟨p0, p1, pf⟩, ⟨q0, q1, qf⟩, ⟨r0, r1, rf⟩, sz⟩ := MK.out _ hx'; have sz1 := Nat.lt_of_succ_lt sz; have sz0 := Nat.lt_of_succ_lt sz1)
      | (go_at_call 91; (with_reducible refine (kall_any  W3 _ (by assumption)).mono ?_); rintro e w' ⟨rfl, hx'⟩; (try clear p0 p1 pf q0 q1 qf r0 r1 rf sz sz0 sz1); obtain ⟨⟨p0, p1, pf⟩, ⟨q0, q1, qf⟩, ⟨r0, r1, rf⟩, sz⟩ := MK.out _ hx'; have sz1 := Nat.lt_of_succ_lt sz; have sz0 := Nat.lt_of_succ_lt sz1)
      | (go_at_call 125; refine (kmasked_any _ _ W3 _ (by assumption)).mono ?_; rintro e w' ⟨rfl, hx'⟩; (try clear p0 p1 pf q0 q1 qf r0 r1 rf sz sz0 sz1); obtain ⟨⟨p0, p1, pf⟩, ⟨q0, q1, qf⟩, ⟨r0, r1, rf⟩, sz⟩ := MK.out _ hx'; have sz1 := Nat.lt_of_succ_lt sz; have sz0 := Nat.lt_of_succ_lt sz1)
      | fail)
    exact bodyPost_ret (by simp [results, Try.results96, go_sem, r0, r1, sz, Nat.ne_of_lt sz, Nat.ne_of_gt sz] <;> (first | exact ⟨rfl, rfl⟩ | rfl)) rfl ⟨rfl, by (refine hx.trans ?_; with_reducible repeat (first | assumption | exact x3.trans hx' | apply Ext.alloc | apply Ext.drew | (refine Ext.store1 ?_ (by omega) _)))⟩
  · have hz : kjoin a b = kall := by simp [kjoin, h2]
    rw [hz]; clear hz
    go_enter Try.func96, Try.ntmps96
    go_wp2_with fail
    rw [← hW3]
    clear hW3
    (try clear p0 p1 pf q0 q1 qf r0 r1 rf sz sz0 sz1); obtain ⟨⟨p0, p1, pf⟩, ⟨q0, q1, qf⟩, ⟨r0, r1, rf⟩, sz⟩ := MK.out _ hx'; have sz1 := Nat.lt_of_succ_lt sz; have sz0 := Nat.lt_of_succ_lt sz1
    go_wp2_with (first
      | (go_at_call 100; (with_reducible refine (kmay_any a W3 _ (by assumption)).mono ?_); rintro e w' ⟨rfl, hx'⟩; (try clear p0 p1 pf q0 q1 qf r0 r1 rf sz sz0 sz1); obtain ⟨⟨p0, p1, pf⟩, ⟨q0, q1, qf⟩, ⟨r0, r1, rf⟩, sz⟩ := MK.out _ hx'; have sz1 := Nat.lt_of_succ_lt sz; have sz0 := Nat.lt_of_succ_lt sz1)
      | (go_at_call 100; (with_reducible refine (kmay_any b W3 _ (by assumption)).mono ?_); rintro e w' ⟨rfl, hx'⟩; (try clear p0 p1 pf q0 q1 qf r0 r1 rf sz sz0 sz1); obtain ⟨⟨p0, p1, pf⟩, ⟨q0, q1, qf⟩, ⟨r0, r1, rf⟩, sz⟩ := MK.out _ hx'; have sz1 := Nat.lt_of_succ_lt sz; have sz0 := Nat.lt_of_succ_lt sz1)
      | (go_at_call 91; (with_reducible refine (kall_any  W3 _ (by assumption)).mono ?_); rintro e w' ⟨rfl, hx'⟩; (try clear p0 p1 pf q0 q1 qf r0 r1 rf sz sz0 sz1); obtain ⟨⟨p0, p1, pf⟩, ⟨q0, q1, qf⟩, ⟨r0, r1, rf⟩, sz⟩ := MK.out _ hx'; have sz1 := Nat.lt_of_succ_lt sz; have sz0 := Nat.lt_of_succ_lt sz1)
      | (go_at_call 125; refine (kmasked_any _ _ W3 _ (by assumption)).mono ?_; rintro e w' ⟨rfl, hx'⟩; (try clear p0 p1 pf q0 q1 qf r0 r1 rf sz sz0 sz1); obtain ⟨⟨p0, p1, pf⟩, ⟨q0, q1, qf⟩, ⟨r0, r1, rf⟩, sz⟩ := MK.out _ hx'; have sz1 := Nat.lt_of_succ_lt sz; have sz0 := Nat.lt_of_succ_lt sz1)
      | fail)
    exact bodyPost_ret (by simp [results, Try.results96, go_sem, r0, r1, sz, Nat.ne_of_lt sz, Nat.ne_of_gt sz] <;> (first | exact ⟨rfl, rfl⟩ | rfl)) rfl ⟨rfl, by (refine hx.trans ?_; with_reducible repeat (first | assumption | exact x3.trans hx' | apply Ext.alloc | apply Ext.drew | (refine Ext.store1 ?_ (by omega) _)))⟩
  · have hz : kjoin a b = kmask a.v (bits .or .u64 (bits .or .u64 a.m b.m) (bits .xor .u64 a.v b.v)) := by simp [kjoin, h1, h2]
    rw [hz]; clear hz
    go_enter Try.func96, Try.ntmps96
    go_wp2_with fail
    rw [← hW3]
    clear hW3
    (try clear p0 p1 pf q0 q1 qf r0 r1 rf sz sz0 sz1); obtain ⟨⟨p0, p1, pf⟩, ⟨q0, q1, qf⟩, ⟨r0, r1, rf⟩, sz⟩ := MK.out _ hx'; have sz1 := Nat.lt_of_succ_lt sz; have sz0 := Nat.lt_of_succ_lt sz1
    go_wp2_with (first
      | (go_at_call 100; (with_reducible refine (kmay_any a W3 _ (by assumption)).mono ?_); rintro e w' ⟨rfl, hx'⟩; (try clear p0 p1 pf q0 q1 qf r0 r1 rf sz sz0 sz1); obtain ⟨⟨p0, p1, pf⟩, ⟨q0, q1, qf⟩, ⟨r0, r1, rf⟩, sz⟩ := MK.out _ hx'; have sz1 := Nat.lt_of_succ_lt sz; have sz0 := Nat.lt_of_succ_lt sz1)
      | (go_at_call 100; (with_reducible refine (kmay_any b W3 _ (by assumption)).mono ?_); rintro e w' ⟨rfl, hx'⟩; (try clear p0 p1 pf q0 q1 qf r0 r1 rf sz sz0 sz1); obtain ⟨⟨p0, p1, pf⟩, ⟨q0, q1, qf⟩, ⟨r0, r1, rf⟩, sz⟩ := MK.out _ hx'; have sz1 := Nat.lt_of_succ_lt sz; have sz0 := Nat.lt_of_succ_lt sz1)
      | (go_at_call 91; (with_reducible refine (kall_any  W3 _ (by assumption)).mono ?_); rintro e w' ⟨rfl, hx'⟩; (try clear p0 p1 pf q0 q1 qf r0 r1 rf sz sz0 sz1); obtain ⟨⟨p0, p1, pf⟩, ⟨q0, q1, qf⟩, ⟨r0, r1, rf⟩, sz⟩ := MK.out _ hx'; have sz1 := Nat.lt_of_succ_lt sz; have sz0 := Nat.lt_of_succ_lt sz1)
      | (go_at_call 125; refine (kmasked_any _ _ W3 _ (by assumption)).mono ?_; rintro e w' ⟨rfl, hx'⟩; (try clear p0 p1 pf q0 q1 qf r0 r1 rf sz sz0 sz1); obtain ⟨⟨p0, p1, pf⟩, ⟨q0, q1, qf⟩, ⟨r0, r1, rf⟩, sz⟩ := MK.out _ hx'; have sz1 := Nat.lt_of_succ_lt sz; have sz0 := Nat.lt_of_succ_lt sz1)
      | fail)
    exact bodyPost_ret (by simp [results, Try.results96, go_sem, r0, r1, sz, Nat.ne_of_lt sz, Nat.ne_of_gt sz] <;> (first | exact ⟨rfl, rfl⟩ | rfl)) rfl ⟨rfl, by (refine hx.trans ?_; with_reducible repeat (first | assumption | exact x3.trans hx' | apply Ext.alloc | apply Ext.drew | (refine Ext.store1 ?_ (by omega) _)))⟩

set_option maxHeartbeats 2000000 in
theorem kmeet_any (a b : Kn) (W w : World) (hx : Ext W w) :
    Calls Try.prog 93 #[.agg #[.int .u64 a.v, .int .u64 a.m], .agg #[.int .u64 b.v, .int .u64 b.m]] w fun e w' => e = .returned (.tuple #[.agg #[.int .u64 (kmeet a b).v, .int .u64 (kmeet a b).m], .bool (kmeets a b)]) ∧ Ext W w' := by
  obtain ⟨W3, hW3⟩ : ∃ W3, W3 = (((w.alloc (.cells #[.int .u64 a.v, .int .u64 a.m] 50)).alloc (.cells #[.int .u64 b.v, .int .u64 b.m] 50)).alloc (.cells #[.int .u64 0, .int .u64 0] 50)) := ⟨_, rfl⟩
  have x3 : Ext w W3 := by rw [hW3]; exact ((((Ext.refl w).alloc _).alloc _).alloc _)
  have MK := hide (fun w' (h : Ext W3 w') => new3 (hW3 ▸ h))
  have hx' : Ext W3 W3 := Ext.refl _
  have hc : kmay a = false ∨ (kmay a = true ∧ kmay b = false) ∨ (kmay a = true ∧ kmay b = true ∧ (kodds a b == 0) = false ∧ (kodds a b != 0) = true) ∨ (kmay a = true ∧ kmay b = true ∧ (kodds a b == 0) = true ∧ (kodds a b != 0) = false) := by
    cases kmay a <;> cases kmay b <;> cases h : (kodds a b == 0) <;> simp_all
  unfold kodds at hc
  rcases hc with h1 | ⟨h1, h2⟩ | ⟨h1, h2, h3, h4⟩ | ⟨h1, h2, h3, h4⟩
  · have hy : kmeets a b = false := by simp [kmeets, h1]
    have hz : kmeet a b = kall := by simp [kmeet, hy]
    rw [hz, hy]; clear hz hy
    go_enter Try.func93, Try.ntmps93
    go_wp2_with fail
    rw [← hW3]
    clear hW3
    (try clear p0 p1 pf q0 q1 qf r0 r1 rf sz sz0 sz1); obtain ⟨⟨p0, p1, pf⟩, ⟨q0, q1, qf⟩, ⟨r0, r1, rf⟩, sz⟩ := MK.out _ hx'; have sz1 := Nat.lt_of_succ_lt sz; have sz0 := Nat.lt_of_succ_lt sz1
    go_wp2_with (first
      | (go_at_call 100; (with_reducible refine (kmay_any a W3 _ (by assumption)).mono ?_); rintro e w' ⟨rfl, hx'⟩; (try clear p0 p1 pf q0 q1 qf r0 r1 rf sz sz0 sz1); obtain ⟨⟨p0, p1, pf⟩, ⟨q0, q1, qf⟩, ⟨r0, r1, rf⟩, sz⟩ := MK.out _ hx'; have sz1 := Nat.lt_of_succ_lt sz; have sz0 := Nat.lt_of_succ_lt sz1)
      | (go_at_call 100; (with_reducible refine (kmay_any b W3 _ (by assumption)).mono ?_); rintro e w' ⟨rfl, hx'⟩; (try clear p0 p1 pf q0 q1 qf r0 r1 rf sz sz0 sz1); obtain ⟨⟨p0, p1, pf⟩, ⟨q0, q1, qf⟩, ⟨r0, r1, rf⟩, sz⟩ := MK.out _ hx'; have sz1 := Nat.lt_of_succ_lt sz; have sz0 := Nat.lt_of_succ_lt sz1)
      | (go_at_call 91; (with_reducible refine (kall_any  W3 _ (by assumption)).mono ?_); rintro e w' ⟨rfl, hx'⟩; (try clear p0 p1 pf q0 q1 qf r0 r1 rf sz sz0 sz1); obtain ⟨⟨p0, p1, pf⟩, ⟨q0, q1, qf⟩, ⟨r0, r1, rf⟩, sz⟩ := MK.out _ hx'; have sz1 := Nat.lt_of_succ_lt sz; have sz0 := Nat.lt_of_succ_lt sz1)
      | (go_at_call 125; refine (kmasked_any _ _ W3 _ (by assumption)).mono ?_; rintro e w' ⟨rfl, hx'⟩; (try clear p0 p1 pf q0 q1 qf r0 r1 rf sz sz0 sz1); obtain ⟨⟨p0, p1, pf⟩, ⟨q0, q1, qf⟩, ⟨r0, r1, rf⟩, sz⟩ := MK.out _ hx'; have sz1 := Nat.lt_of_succ_lt sz; have sz0 := Nat.lt_of_succ_lt sz1)
      | fail)
    exact bodyPost_ret (v := .tuple #[.agg #[.int .u64 kall.v, .int .u64 kall.m], .bool false]) (by simp [results, Try.results93, go_sem, r0, r1, sz, Nat.ne_of_lt sz, Nat.ne_of_gt sz] <;> (first | exact ⟨rfl, rfl⟩ | rfl)) rfl ⟨rfl, by (refine hx.trans ?_; with_reducible repeat (first | assumption | exact x3.trans hx' | apply Ext.alloc | apply Ext.drew | (refine Ext.store1 ?_ (by omega) _)))⟩
  · have hy : kmeets a b = false := by simp [kmeets, h2]
    have hz : kmeet a b = kall := by simp [kmeet, hy]
    rw [hz, hy]; clear hz hy
    go_enter Try.func93, Try.ntmps93
    go_wp2_with fail
    rw [← hW3]
    clear hW3
    (try clear p0 p1 pf q0 q1 qf r0 r1 rf sz sz0 sz1); obtain ⟨⟨p0, p1, pf⟩, ⟨q0, q1, qf⟩, ⟨r0, r1, rf⟩, sz⟩ := MK.out _ hx'; have sz1 := Nat.lt_of_succ_lt sz; have sz0 := Nat.lt_of_succ_lt sz1
    go_wp2_with (first
      | (go_at_call 100; (with_reducible refine (kmay_any a W3 _ (by assumption)).mono ?_); rintro e w' ⟨rfl, hx'⟩; (try clear p0 p1 pf q0 q1 qf r0 r1 rf sz sz0 sz1); obtain ⟨⟨p0, p1, pf⟩, ⟨q0, q1, qf⟩, ⟨r0, r1, rf⟩, sz⟩ := MK.out _ hx'; have sz1 := Nat.lt_of_succ_lt sz; have sz0 := Nat.lt_of_succ_lt sz1)
      | (go_at_call 100; (with_reducible refine (kmay_any b W3 _ (by assumption)).mono ?_); rintro e w' ⟨rfl, hx'⟩; (try clear p0 p1 pf q0 q1 qf r0 r1 rf sz sz0 sz1); obtain ⟨⟨p0, p1, pf⟩, ⟨q0, q1, qf⟩, ⟨r0, r1, rf⟩, sz⟩ := MK.out _ hx'; have sz1 := Nat.lt_of_succ_lt sz; have sz0 := Nat.lt_of_succ_lt sz1)
      | (go_at_call 91; (with_reducible refine (kall_any  W3 _ (by assumption)).mono ?_); rintro e w' ⟨rfl, hx'⟩; (try clear p0 p1 pf q0 q1 qf r0 r1 rf sz sz0 sz1); obtain ⟨⟨p0, p1, pf⟩, ⟨q0, q1, qf⟩, ⟨r0, r1, rf⟩, sz⟩ := MK.out _ hx'; have sz1 := Nat.lt_of_succ_lt sz; have sz0 := Nat.lt_of_succ_lt sz1)
      | (go_at_call 125; refine (kmasked_any _ _ W3 _ (by assumption)).mono ?_; rintro e w' ⟨rfl, hx'⟩; (try clear p0 p1 pf q0 q1 qf r0 r1 rf sz sz0 sz1); obtain ⟨⟨p0, p1, pf⟩, ⟨q0, q1, qf⟩, ⟨r0, r1, rf⟩, sz⟩ := MK.out _ hx'; have sz1 := Nat.lt_of_succ_lt sz; have sz0 := Nat.lt_of_succ_lt sz1)
      | fail)
    exact bodyPost_ret (v := .tuple #[.agg #[.int .u64 kall.v, .int .u64 kall.m], .bool false]) (by simp [results, Try.results93, go_sem, r0, r1, sz, Nat.ne_of_lt sz, Nat.ne_of_gt sz] <;> (first | exact ⟨rfl, rfl⟩ | rfl)) rfl ⟨rfl, by (refine hx.trans ?_; with_reducible repeat (first | assumption | exact x3.trans hx' | apply Ext.alloc | apply Ext.drew | (refine Ext.store1 ?_ (by omega) _)))⟩
  · have hy : kmeets a b = false := by simp [kmeets, kodds, h3]
    have hz : kmeet a b = kall := by simp [kmeet, hy]
    rw [hz, hy]; clear hz hy h3
    go_enter Try.func93, Try.ntmps93
    go_wp2_with fail
    rw [← hW3]
    clear hW3
    (try clear p0 p1 pf q0 q1 qf r0 r1 rf sz sz0 sz1); obtain ⟨⟨p0, p1, pf⟩, ⟨q0, q1, qf⟩, ⟨r0, r1, rf⟩, sz⟩ := MK.out _ hx'; have sz1 := Nat.lt_of_succ_lt sz; have sz0 := Nat.lt_of_succ_lt sz1
    go_wp2_with (first
      | (go_at_call 100; (with_reducible refine (kmay_any a W3 _ (by assumption)).mono ?_); rintro e w' ⟨rfl, hx'⟩; (try clear p0 p1 pf q0 q1 qf r0 r1 rf sz sz0 sz1); obtain ⟨⟨p0, p1, pf⟩, ⟨q0, q1, qf⟩, ⟨r0, r1, rf⟩, sz⟩ := MK.out _ hx'; have sz1 := Nat.lt_of_succ_lt sz; have sz0 := Nat.lt_of_succ_lt sz1)
      | (go_at_call 100; (with_reducible refine (kmay_any b W3 _ (by assumption)).mono ?_); rintro e w' ⟨rfl, hx'⟩; (try clear p0 p1 pf q0 q1 qf r0 r1 rf sz sz0 sz1); obtain ⟨⟨p0, p1, pf⟩, ⟨q0, q1, qf⟩, ⟨r0, r1, rf⟩, sz⟩ := MK.out _ hx'; have sz1 := Nat.lt_of_succ_lt sz; have sz0 := Nat.lt_of_succ_lt sz1)
      | (go_at_call 91; (with_reducible refine (kall_any  W3 _ (by assumption)).mono ?_); rintro e w' ⟨rfl, hx'⟩; (try clear p0 p1 pf q0 q1 qf r0 r1 rf sz sz0 sz1); obtain ⟨⟨p0, p1, pf⟩, ⟨q0, q1, qf⟩, ⟨r0, r1, rf⟩, sz⟩ := MK.out _ hx'; have sz1 := Nat.lt_of_succ_lt sz; have sz0 := Nat.lt_of_succ_lt sz1)
      | (go_at_call 125; refine (kmasked_any _ _ W3 _ (by assumption)).mono ?_; rintro e w' ⟨rfl, hx'⟩; (try clear p0 p1 pf q0 q1 qf r0 r1 rf sz sz0 sz1); obtain ⟨⟨p0, p1, pf⟩, ⟨q0, q1, qf⟩, ⟨r0, r1, rf⟩, sz⟩ := MK.out _ hx'; have sz1 := Nat.lt_of_succ_lt sz; have sz0 := Nat.lt_of_succ_lt sz1)
      | fail)
    exact bodyPost_ret (v := .tuple #[.agg #[.int .u64 kall.v, .int .u64 kall.m], .bool false]) (by simp [results, Try.results93, go_sem, r0, r1, sz, Nat.ne_of_lt sz, Nat.ne_of_gt sz] <;> (first | exact ⟨rfl, rfl⟩ | rfl)) rfl ⟨rfl, by (refine hx.trans ?_; with_reducible repeat (first | assumption | exact x3.trans hx' | apply Ext.alloc | apply Ext.drew | (refine Ext.store1 ?_ (by omega) _)))⟩
  · have hy : kmeets a b = true := by simp [kmeets, kodds, h1, h2, h3]
    have hz : kmeet a b = kmask (bits .or .u64 a.v b.v) (bits .and .u64 a.m b.m) := by simp [kmeet, hy]
    rw [hz, hy]; clear hz hy h3
    go_enter Try.func93, Try.ntmps93
    go_wp2_with fail
    rw [← hW3]
    clear hW3
    (try clear p0 p1 pf q0 q1 qf r0 r1 rf sz sz0 sz1); obtain ⟨⟨p0, p1, pf⟩, ⟨q0, q1, qf⟩, ⟨r0, r1, rf⟩, sz⟩ := MK.out _ hx'; have sz1 := Nat.lt_of_succ_lt sz; have sz0 := Nat.lt_of_succ_lt sz1
    go_wp2_with (first
      | (go_at_call 100; (with_reducible refine (kmay_any a W3 _ (by assumption)).mono ?_); rintro e w' ⟨rfl, hx'⟩; (try clear p0 p1 pf q0 q1 qf r0 r1 rf sz sz0 sz1); obtain ⟨⟨p0, p1, pf⟩, ⟨q0, q1, qf⟩, ⟨r0, r1, rf⟩, sz⟩ := MK.out _ hx'; have sz1 := Nat.lt_of_succ_lt sz; have sz0 := Nat.lt_of_succ_lt sz1)
      | (go_at_call 100; (with_reducible refine (kmay_any b W3 _ (by assumption)).mono ?_); rintro e w' ⟨rfl, hx'⟩; (try clear p0 p1 pf q0 q1 qf r0 r1 rf sz sz0 sz1); obtain ⟨⟨p0, p1, pf⟩, ⟨q0, q1, qf⟩, ⟨r0, r1, rf⟩, sz⟩ := MK.out _ hx'; have sz1 := Nat.lt_of_succ_lt sz; have sz0 := Nat.lt_of_succ_lt sz1)
      | (go_at_call 91; (with_reducible refine (kall_any  W3 _ (by assumption)).mono ?_); rintro e w' ⟨rfl, hx'⟩; (try clear p0 p1 pf q0 q1 qf r0 r1 rf sz sz0 sz1); obtain ⟨⟨p0, p1, pf⟩, ⟨q0, q1, qf⟩, ⟨r0, r1, rf⟩, sz⟩ := MK.out _ hx'; have sz1 := Nat.lt_of_succ_lt sz; have sz0 := Nat.lt_of_succ_lt sz1)
      | (go_at_call 125; refine (kmasked_any _ _ W3 _ (by assumption)).mono ?_; rintro e w' ⟨rfl, hx'⟩; (try clear p0 p1 pf q0 q1 qf r0 r1 rf sz sz0 sz1); obtain ⟨⟨p0, p1, pf⟩, ⟨q0, q1, qf⟩, ⟨r0, r1, rf⟩, sz⟩ := MK.out _ hx'; have sz1 := Nat.lt_of_succ_lt sz; have sz0 := Nat.lt_of_succ_lt sz1)
      | fail)
    exact bodyPost_ret (v := .tuple #[.agg #[.int .u64 (kmask (bits .or .u64 a.v b.v) (bits .and .u64 a.m b.m)).v, .int .u64 (kmask (bits .or .u64 a.v b.v) (bits .and .u64 a.m b.m)).m], .bool true]) (by simp [results, Try.results93, go_sem, r0, r1, sz, Nat.ne_of_lt sz, Nat.ne_of_gt sz] <;> (first | exact ⟨rfl, rfl⟩ | rfl)) rfl ⟨rfl, by (refine hx.trans ?_; with_reducible repeat (first | assumption | exact x3.trans hx' | apply Ext.alloc | apply Ext.drew | (refine Ext.store1 ?_ (by omega) _)))⟩
end Go.Proofs.Ytcngfmhhaleoaaa
