/- The walks of package known: the operations. -/
import Derived.Test.YtcngfmhhaleoaaaKnA
import Derived.Deep.RegionHeld3
import Derived.Deep.RegionWith
set_option linter.unusedVariables false
set_option linter.unusedSimpArgs false
namespace Go.Proofs.Ytcngfmhhaleoaaa
open Go.RowKit

set_option maxHeartbeats 4000000 in
theorem kkcut_any (a : Kn) (x : Int) (W w : World) (hx : Ext W w) (ha : a.wf) :
    Calls Try.prog 117 #[.agg #[.int .u64 a.v, .int .u64 a.m], .int .i8 x] w fun e w' => e = .returned (.agg #[.int .u64 (kcut a x).v, .int .u64 (kcut a x).m]) ∧ Ext W w' := by
  obtain ⟨W3, hW3⟩ : ∃ W3, W3 = ((w.alloc (.cells #[.int .u64 a.v, .int .u64 a.m] 50)).alloc (.cells #[.int .u64 0, .int .u64 0] 50)) := ⟨_, rfl⟩
  have x3 : Ext w W3 := by rw [hW3]; exact (((Ext.refl w).alloc _).alloc _)
  have MK := hide (fun w' (h : Ext W3 w') => new2 (hW3 ▸ h))
  have hx' : Ext W3 W3 := Ext.refl _
  obtain ⟨⟨a1, a2⟩, a3, a4⟩ := ha
  have hc : kmay a = false ∨ kmay a = true := by cases kmay a <;> simp
  rcases hc with h1 | h1
  · have hz : kcut a x = kall := by simp [kcut, h1]
    rw [hz]; clear hz
    go_enter Try.func117, Try.ntmps117
    go_wp2_with fail
    rw [← hW3]
    clear hW3
    (try clear p0 p1 pf q0 q1 qf sz sz0); obtain ⟨⟨p0, p1, pf⟩, ⟨q0, q1, qf⟩, sz⟩ := MK.out _ hx'; have sz0 := Nat.lt_of_succ_lt sz
    go_wp2_with (first
      | (go_at_call 100; (with_reducible refine (kmay_any a W3 _ (by assumption)).mono ?_); rintro e w' ⟨rfl, hx'⟩; (try clear p0 p1 pf q0 q1 qf sz sz0); obtain ⟨⟨p0, p1, pf⟩, ⟨q0, q1, qf⟩, sz⟩ := MK.out _ hx'; have sz0 := Nat.lt_of_succ_lt sz)
      | (go_at_call 91; (with_reducible refine (kall_any  W3 _ (by assumption)).mono ?_); rintro e w' ⟨rfl, hx'⟩; (try clear p0 p1 pf q0 q1 qf sz sz0); obtain ⟨⟨p0, p1, pf⟩, ⟨q0, q1, qf⟩, sz⟩ := MK.out _ hx'; have sz0 := Nat.lt_of_succ_lt sz)
      | fail)
    exact bodyPost_ret (by simp [results, Try.results117, go_sem, q0, q1, sz, Nat.ne_of_lt sz, Nat.ne_of_gt sz] <;> (first | exact ⟨rfl, rfl⟩ | rfl)) rfl ⟨rfl, by (refine hx.trans ?_; with_reducible repeat (first | assumption | exact x3.trans hx' | apply Ext.alloc | apply Ext.drew | (refine Ext.store1 ?_ (by omega) _)))⟩
  · have hz : kcut a x = ⟨zcut a.v x, zcut a.m x⟩ := by simp [kcut, h1]
    rw [hz]; clear hz
    go_enter Try.func117, Try.ntmps117
    go_wp2_with fail
    rw [← hW3]
    clear hW3
    (try clear p0 p1 pf q0 q1 qf sz sz0); obtain ⟨⟨p0, p1, pf⟩, ⟨q0, q1, qf⟩, sz⟩ := MK.out _ hx'; have sz0 := Nat.lt_of_succ_lt sz
    go_wp2_with (first
      | (go_at_call 100; (with_reducible refine (kmay_any a W3 _ (by assumption)).mono ?_); rintro e w' ⟨rfl, hx'⟩; (try clear p0 p1 pf q0 q1 qf sz sz0); obtain ⟨⟨p0, p1, pf⟩, ⟨q0, q1, qf⟩, sz⟩ := MK.out _ hx'; have sz0 := Nat.lt_of_succ_lt sz)
      | fail)
    go_region_held3 (fun w' => w'.cell? ⟨w.heap.size, 0, none⟩ = some (.int .u64 a.v) ∧ w'.cell? ⟨w.heap.size, 1, none⟩ = some (.int .u64 a.m))
      (go_keep)
      ((go_at_call 79; (with_reducible refine (cut_any _ _ _ (by omega) (by omega)).mono ?_); rintro e w2 ⟨rfl, rfl⟩))
    go_wp2_with fail
    exact bodyPost_ret (by simp [results, Try.results117, go_sem, q0, q1, sz, Nat.ne_of_lt sz, Nat.ne_of_gt sz] <;> (first | exact ⟨rfl, rfl⟩ | rfl)) rfl ⟨rfl, by (refine hx.trans ?_; with_reducible repeat (first | assumption | exact x3.trans hx' | apply Ext.alloc | apply Ext.drew | (refine Ext.store1 ?_ (by omega) _)))⟩

set_option maxHeartbeats 2000000 in
theorem kcarried_any (x y : Int) (a b : Kn) (W w : World) (hx : Ext W w) :
    Calls Try.prog 127 #[.int .u64 x, .int .u64 y, .agg #[.int .u64 a.v, .int .u64 a.m], .agg #[.int .u64 b.v, .int .u64 b.m]] w fun e w' => e = .returned (.agg #[.int .u64 (kmask x (bits .or .u64 (bits .or .u64 (bits .xor .u64 x y) a.m) b.m)).v, .int .u64 (kmask x (bits .or .u64 (bits .or .u64 (bits .xor .u64 x y) a.m) b.m)).m]) ∧ Ext W w' := by
  obtain ⟨W3, hW3⟩ : ∃ W3, W3 = (((w.alloc (.cells #[.int .u64 a.v, .int .u64 a.m] 50)).alloc (.cells #[.int .u64 b.v, .int .u64 b.m] 50)).alloc (.cells #[.int .u64 0, .int .u64 0] 50)) := ⟨_, rfl⟩
  have x3 : Ext w W3 := by rw [hW3]; exact ((((Ext.refl w).alloc _).alloc _).alloc _)
  have MK := hide (fun w' (h : Ext W3 w') => new3 (hW3 ▸ h))
  have hx' : Ext W3 W3 := Ext.refl _
  go_enter Try.func127, Try.ntmps127
  go_wp2_with fail
  rw [← hW3]
  clear hW3
  (try clear p0 p1 pf q0 q1 qf r0 r1 rf sz sz0 sz1); obtain ⟨⟨p0, p1, pf⟩, ⟨q0, q1, qf⟩, ⟨r0, r1, rf⟩, sz⟩ := MK.out _ hx'; have sz1 := Nat.lt_of_succ_lt sz; have sz0 := Nat.lt_of_succ_lt sz1
  go_wp2_with (first
    | (go_at_call 125; refine (kmasked_any _ _ W3 _ (by assumption)).mono ?_; rintro e w' ⟨rfl, hx'⟩; (try clear p0 p1 pf q0 q1 qf r0 r1 rf sz sz0 sz1); obtain ⟨⟨p0, p1, pf⟩, ⟨q0, q1, qf⟩, ⟨r0, r1, rf⟩, sz⟩ := MK.out _ hx'; have sz1 := Nat.lt_of_succ_lt sz; have sz0 := Nat.lt_of_succ_lt sz1)
    | fail)
  exact bodyPost_ret (by simp [results, Try.results127, go_sem, r0, r1, sz, Nat.ne_of_lt sz, Nat.ne_of_gt sz] <;> (first | exact ⟨rfl, rfl⟩ | rfl)) rfl ⟨rfl, by (refine hx.trans ?_; with_reducible repeat (first | assumption | exact x3.trans hx' | apply Ext.alloc | apply Ext.drew | (refine Ext.store1 ?_ (by omega) _)))⟩

set_option maxHeartbeats 2000000 in
theorem kadd_any (a b : Kn) (W w : World) (hx : Ext W w) :
    Calls Try.prog 118 #[.agg #[.int .u64 a.v, .int .u64 a.m], .agg #[.int .u64 b.v, .int .u64 b.m]] w fun e w' => e = .returned (.agg #[.int .u64 (kadd a b).v, .int .u64 (kadd a b).m]) ∧ Ext W w' := by
  obtain ⟨W3, hW3⟩ : ∃ W3, W3 = (((w.alloc (.cells #[.int .u64 a.v, .int .u64 a.m] 50)).alloc (.cells #[.int .u64 b.v, .int .u64 b.m] 50)).alloc (.cells #[.int .u64 0, .int .u64 0] 50)) := ⟨_, rfl⟩
  have x3 : Ext w W3 := by rw [hW3]; exact ((((Ext.refl w).alloc _).alloc _).alloc _)
  have MK := hide (fun w' (h : Ext W3 w') => new3 (hW3 ▸ h))
  have hx' : Ext W3 W3 := Ext.refl _
  go_enter Try.func118, Try.ntmps118
  go_wp2_with fail
  rw [← hW3]
  clear hW3
  (try clear p0 p1 pf q0 q1 qf r0 r1 rf sz sz0 sz1); obtain ⟨⟨p0, p1, pf⟩, ⟨q0, q1, qf⟩, ⟨r0, r1, rf⟩, sz⟩ := MK.out _ hx'; have sz1 := Nat.lt_of_succ_lt sz; have sz0 := Nat.lt_of_succ_lt sz1
  go_wp2_with (first
    | (go_at_call 127; refine (kcarried_any _ _ a b W3 _ (by assumption)).mono ?_; rintro e w' ⟨rfl, hx'⟩; (try clear p0 p1 pf q0 q1 qf r0 r1 rf sz sz0 sz1); obtain ⟨⟨p0, p1, pf⟩, ⟨q0, q1, qf⟩, ⟨r0, r1, rf⟩, sz⟩ := MK.out _ hx'; have sz1 := Nat.lt_of_succ_lt sz; have sz0 := Nat.lt_of_succ_lt sz1)
    | fail)
  exact bodyPost_ret (by simp [results, Try.results118, go_sem, r0, r1, sz, Nat.ne_of_lt sz, Nat.ne_of_gt sz] <;> (first | exact ⟨rfl, rfl⟩ | rfl)) rfl ⟨rfl, by (refine hx.trans ?_; with_reducible repeat (first | assumption | exact x3.trans hx' | apply Ext.alloc | apply Ext.drew | (refine Ext.store1 ?_ (by omega) _)))⟩

set_option maxHeartbeats 2000000 in
theorem ksub_any (a b : Kn) (W w : World) (hx : Ext W w) :
    Calls Try.prog 119 #[.agg #[.int .u64 a.v, .int .u64 a.m], .agg #[.int .u64 b.v, .int .u64 b.m]] w fun e w' => e = .returned (.agg #[.int .u64 (ksub a b).v, .int .u64 (ksub a b).m]) ∧ Ext W w' := by
  obtain ⟨W3, hW3⟩ : ∃ W3, W3 = (((w.alloc (.cells #[.int .u64 a.v, .int .u64 a.m] 50)).alloc (.cells #[.int .u64 b.v, .int .u64 b.m] 50)).alloc (.cells #[.int .u64 0, .int .u64 0] 50)) := ⟨_, rfl⟩
  have x3 : Ext w W3 := by rw [hW3]; exact ((((Ext.refl w).alloc _).alloc _).alloc _)
  have MK := hide (fun w' (h : Ext W3 w') => new3 (hW3 ▸ h))
  have hx' : Ext W3 W3 := Ext.refl _
  go_enter Try.func119, Try.ntmps119
  go_wp2_with fail
  rw [← hW3]
  clear hW3
  (try clear p0 p1 pf q0 q1 qf r0 r1 rf sz sz0 sz1); obtain ⟨⟨p0, p1, pf⟩, ⟨q0, q1, qf⟩, ⟨r0, r1, rf⟩, sz⟩ := MK.out _ hx'; have sz1 := Nat.lt_of_succ_lt sz; have sz0 := Nat.lt_of_succ_lt sz1
  go_wp2_with (first
    | (go_at_call 125; refine (kmasked_any _ _ W3 _ (by assumption)).mono ?_; rintro e w' ⟨rfl, hx'⟩; (try clear p0 p1 pf q0 q1 qf r0 r1 rf sz sz0 sz1); obtain ⟨⟨p0, p1, pf⟩, ⟨q0, q1, qf⟩, ⟨r0, r1, rf⟩, sz⟩ := MK.out _ hx'; have sz1 := Nat.lt_of_succ_lt sz; have sz0 := Nat.lt_of_succ_lt sz1)
    | fail)
  exact bodyPost_ret (by simp [results, Try.results119, go_sem, r0, r1, sz, Nat.ne_of_lt sz, Nat.ne_of_gt sz] <;> (first | exact ⟨rfl, rfl⟩ | rfl)) rfl ⟨rfl, by (refine hx.trans ?_; with_reducible repeat (first | assumption | exact x3.trans hx' | apply Ext.alloc | apply Ext.drew | (refine Ext.store1 ?_ (by omega) _)))⟩

set_option maxHeartbeats 2000000 in
theorem kand_any (a b : Kn) (W w : World) (hx : Ext W w) :
    Calls Try.prog 121 #[.agg #[.int .u64 a.v, .int .u64 a.m], .agg #[.int .u64 b.v, .int .u64 b.m]] w fun e w' => e = .returned (.agg #[.int .u64 (kand a b).v, .int .u64 (kand a b).m]) ∧ Ext W w' := by
  go_enter Try.func121, Try.ntmps121
  go_wp2_with fail
  exact bodyPost_ret (by simp [results, Try.results121, go_sem] <;> (first | exact ⟨rfl, rfl⟩ | rfl)) rfl ⟨rfl, by (refine hx.trans ?_; repeat (first | exact Ext.refl _ | apply Ext.alloc | (refine Ext.store1 ?_ (by simp; omega) _)))⟩

set_option maxHeartbeats 2000000 in
theorem kor_any (a b : Kn) (W w : World) (hx : Ext W w) :
    Calls Try.prog 120 #[.agg #[.int .u64 a.v, .int .u64 a.m], .agg #[.int .u64 b.v, .int .u64 b.m]] w fun e w' => e = .returned (.agg #[.int .u64 (kor a b).v, .int .u64 (kor a b).m]) ∧ Ext W w' := by
  go_enter Try.func120, Try.ntmps120
  go_wp2_with fail
  exact bodyPost_ret (by simp [results, Try.results120, go_sem] <;> (first | exact ⟨rfl, rfl⟩ | rfl)) rfl ⟨rfl, by (refine hx.trans ?_; repeat (first | exact Ext.refl _ | apply Ext.alloc | (refine Ext.store1 ?_ (by simp; omega) _)))⟩

set_option maxHeartbeats 2000000 in
theorem kxor_any (a b : Kn) (W w : World) (hx : Ext W w) :
    Calls Try.prog 123 #[.agg #[.int .u64 a.v, .int .u64 a.m], .agg #[.int .u64 b.v, .int .u64 b.m]] w fun e w' => e = .returned (.agg #[.int .u64 (kxor a b).v, .int .u64 (kxor a b).m]) ∧ Ext W w' := by
  obtain ⟨W3, hW3⟩ : ∃ W3, W3 = (((w.alloc (.cells #[.int .u64 a.v, .int .u64 a.m] 50)).alloc (.cells #[.int .u64 b.v, .int .u64 b.m] 50)).alloc (.cells #[.int .u64 0, .int .u64 0] 50)) := ⟨_, rfl⟩
  have x3 : Ext w W3 := by rw [hW3]; exact ((((Ext.refl w).alloc _).alloc _).alloc _)
  have MK := hide (fun w' (h : Ext W3 w') => new3 (hW3 ▸ h))
  have hx' : Ext W3 W3 := Ext.refl _
  go_enter Try.func123, Try.ntmps123
  go_wp2_with fail
  rw [← hW3]
  clear hW3
  (try clear p0 p1 pf q0 q1 qf r0 r1 rf sz sz0 sz1); obtain ⟨⟨p0, p1, pf⟩, ⟨q0, q1, qf⟩, ⟨r0, r1, rf⟩, sz⟩ := MK.out _ hx'; have sz1 := Nat.lt_of_succ_lt sz; have sz0 := Nat.lt_of_succ_lt sz1
  go_wp2_with (first
    | (go_at_call 125; refine (kmasked_any _ _ W3 _ (by assumption)).mono ?_; rintro e w' ⟨rfl, hx'⟩; (try clear p0 p1 pf q0 q1 qf r0 r1 rf sz sz0 sz1); obtain ⟨⟨p0, p1, pf⟩, ⟨q0, q1, qf⟩, ⟨r0, r1, rf⟩, sz⟩ := MK.out _ hx'; have sz1 := Nat.lt_of_succ_lt sz; have sz0 := Nat.lt_of_succ_lt sz1)
    | fail)
  exact bodyPost_ret (by simp [results, Try.results123, go_sem, r0, r1, sz, Nat.ne_of_lt sz, Nat.ne_of_gt sz] <;> (first | exact ⟨rfl, rfl⟩ | rfl)) rfl ⟨rfl, by (refine hx.trans ?_; with_reducible repeat (first | assumption | exact x3.trans hx' | apply Ext.alloc | apply Ext.drew | (refine Ext.store1 ?_ (by omega) _)))⟩

set_option maxHeartbeats 2000000 in
theorem ksecond_any (a b : Kn) (W w : World) (hx : Ext W w) :
    Calls Try.prog 124 #[.agg #[.int .u64 a.v, .int .u64 a.m], .agg #[.int .u64 b.v, .int .u64 b.m]] w fun e w' => e = .returned (.agg #[.int .u64 (b).v, .int .u64 (b).m]) ∧ Ext W w' := by
  go_enter Try.func124, Try.ntmps124
  go_wp2_with fail
  exact bodyPost_ret (by simp [results, Try.results124, go_sem] <;> (first | exact ⟨rfl, rfl⟩ | rfl)) rfl ⟨rfl, by (refine hx.trans ?_; repeat (first | exact Ext.refl _ | apply Ext.alloc | (refine Ext.store1 ?_ (by simp; omega) _)))⟩

set_option maxHeartbeats 4000000 in
theorem kneg_any (a b : Kn) (W w : World) (hx : Ext W w) :
    Calls Try.prog 122 #[.agg #[.int .u64 a.v, .int .u64 a.m], .agg #[.int .u64 b.v, .int .u64 b.m]] w fun e w' => e = .returned (.agg #[.int .u64 (ksub (kone 0) a).v, .int .u64 (ksub (kone 0) a).m]) ∧ Ext W w' := by
  obtain ⟨W3, hW3⟩ : ∃ W3, W3 = (((w.alloc (.cells #[.int .u64 a.v, .int .u64 a.m] 50)).alloc (.cells #[.int .u64 b.v, .int .u64 b.m] 50)).alloc (.cells #[.int .u64 0, .int .u64 0] 50)) := ⟨_, rfl⟩
  have x3 : Ext w W3 := by rw [hW3]; exact ((((Ext.refl w).alloc _).alloc _).alloc _)
  have MK := hide (fun w' (h : Ext W3 w') => new3 (hW3 ▸ h))
  have hx' : Ext W3 W3 := Ext.refl _
  go_enter Try.func122, Try.ntmps122
  go_wp2_with fail
  rw [← hW3]
  clear hW3
  (try clear p0 p1 pf q0 q1 qf r0 r1 rf sz sz0 sz1); obtain ⟨⟨p0, p1, pf⟩, ⟨q0, q1, qf⟩, ⟨r0, r1, rf⟩, sz⟩ := MK.out _ hx'; have sz1 := Nat.lt_of_succ_lt sz; have sz0 := Nat.lt_of_succ_lt sz1
  have hd : Ext W3 W3.drew := hx'.drew
  go_region_with (first
    | (go_at_call 90; (with_reducible refine (kone_any _ W3 _ (by assumption)).mono ?_); rintro e w' ⟨rfl, hx'⟩; (try clear p0 p1 pf q0 q1 qf r0 r1 rf sz sz0 sz1); obtain ⟨⟨p0, p1, pf⟩, ⟨q0, q1, qf⟩, ⟨r0, r1, rf⟩, sz⟩ := MK.out _ hx'; have sz1 := Nat.lt_of_succ_lt sz; have sz0 := Nat.lt_of_succ_lt sz1)
    | (go_at_call 119; (with_reducible refine (ksub_any (kone 0) a W3 _ (by assumption)).mono ?_); rintro e w' ⟨rfl, hx'⟩; (try clear p0 p1 pf q0 q1 qf r0 r1 rf sz sz0 sz1); obtain ⟨⟨p0, p1, pf⟩, ⟨q0, q1, qf⟩, ⟨r0, r1, rf⟩, sz⟩ := MK.out _ hx'; have sz1 := Nat.lt_of_succ_lt sz; have sz0 := Nat.lt_of_succ_lt sz1))
  all_goals
    go_wp2_with fail
    exact bodyPost_ret (by simp [results, Try.results122, go_sem, r0, r1, sz, Nat.ne_of_lt sz, Nat.ne_of_gt sz] <;> (first | exact ⟨rfl, rfl⟩ | rfl)) rfl ⟨rfl, by (refine hx.trans ?_; with_reducible repeat (first | assumption | exact x3.trans hx' | apply Ext.alloc | apply Ext.drew | (refine Ext.store1 ?_ (by omega) _)))⟩
end Go.Proofs.Ytcngfmhhaleoaaa
