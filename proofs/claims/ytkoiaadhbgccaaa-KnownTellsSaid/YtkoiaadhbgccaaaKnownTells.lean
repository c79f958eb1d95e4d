/- The walk of the law KnownTells. -/
import Derived.Test.YtkoiaadhbgccaaaKnW
import Derived.Test.YtkoiaadhbgccaaaKnU
import Derived.Test.YtkoiaadhbgccaaaKnL6
import Derived.Deep.RegionHeld3
import Derived.Deep.RegionWith
import Derived.Deep.DeepCutAuto
set_option linter.unusedVariables false
set_option linter.unusedSimpArgs false
namespace Go.Proofs.Ytkoiaadhbgccaaa
open Go.RowKit Go.ChangeShapes Go.WideShapes

theorem rmeet_to (a b : Kn) (W w : World) (hx : Ext W w) : Calls Try.prog 37 #[.agg #[.int .u64 a.v, .int .u64 a.m], .agg #[.int .u64 b.v, .int .u64 b.m]] w fun e w' => e = .returned (.tuple #[.agg #[.int .u64 (kmeet a b).v, .int .u64 (kmeet a b).m], .bool (kmeets a b)]) ∧ Ext W w' := by
  rw [kmeet_rmeet]; exact rmeet_any a b W w hx
theorem rin_to (a b : Kn) (hb : b.wf) (W w : World) (hx : Ext W w) : Calls Try.prog 44 #[.agg #[.int .u64 a.v, .int .u64 a.m], .agg #[.int .u64 b.v, .int .u64 b.m]] w fun e w' => e = .returned (.bool (kin a b)) ∧ Ext W w' := by
  rw [kin_rin hb]; exact rin_any a b W w hx
theorem kcommon_k (lo hi : Int) (h1 : 0 ≤ lo) (h2 : lo ≤ 18446744073709551615) (h3 : 0 ≤ hi) (h4 : hi ≤ 18446744073709551615) (W w : World) (hx : Ext W w) : Calls Try.prog 35 #[.int .u64 lo, .int .u64 hi] w fun e w' => e = .returned (.agg #[.int .u64 (kcommon lo hi).v, .int .u64 (kcommon lo hi).m]) ∧ Ext W w' := kcommon_any lo hi W w hx h1 h2 h3 h4
theorem rcommon_k (lo hi : Int) (h1 : 0 ≤ lo) (h2 : lo ≤ 18446744073709551615) (h3 : 0 ≤ hi) (h4 : hi ≤ 18446744073709551615) (W w : World) (hx : Ext W w) : Calls Try.prog 41 #[.int .u64 lo, .int .u64 hi] w fun e w' => e = .returned (.agg #[.int .u64 (kcommon lo hi).v, .int .u64 (kcommon lo hi).m]) ∧ Ext W w' := rcommon_any lo hi W w hx h1 h2 h3 h4
theorem kkcut_k (a : Kn) (x : Int) (ha : a.wf) (W w : World) (hx : Ext W w) : Calls Try.prog 28 #[.agg #[.int .u64 a.v, .int .u64 a.m], .int .i8 x] w fun e w' => e = .returned (.agg #[.int .u64 (kcut a x).v, .int .u64 (kcut a x).m]) ∧ Ext W w' := kkcut_any a x W w hx ha
theorem rkcut_k (a : Kn) (x : Int) (ha : a.wf) (W w : World) (hx : Ext W w) : Calls Try.prog 45 #[.agg #[.int .u64 a.v, .int .u64 a.m], .int .i8 x] w fun e w' => e = .returned (.agg #[.int .u64 (kcut a x).v, .int .u64 (kcut a x).m]) ∧ Ext W w' := rkcut_any a x W w hx ha
set_option maxRecDepth 100000 in
set_option maxHeartbeats 8000000 in
theorem kt_walk (a b : Kn) (v lo hi w1 : Int) (W : World) (ha : a.wf) (hb : b.wf) (h1 : 0 ≤ lo) (h2 : lo ≤ 18446744073709551615) (h3 : 0 ≤ hi) (h4 : hi ≤ 18446744073709551615) :
    Calls Try.prog 11 #[.agg #[.int .u64 a.v, .int .u64 a.m], .agg #[.int .u64 b.v, .int .u64 b.m], .int .u64 v, .int .u64 lo, .int .u64 hi, .int .i8 w1] W fun e W' => e = .returned (.bool true) ∧ Ext W W' := by
  obtain ⟨W3, hW3⟩ : ∃ W3, W3 = ((W.alloc (.cells #[.int .u64 a.v, .int .u64 a.m] 48)).alloc (.cells #[.int .u64 b.v, .int .u64 b.m] 48)) := ⟨_, rfl⟩
  have x3 : Ext W W3 := by rw [hW3]; exact (((Ext.refl W).alloc _).alloc _)
  have MK := hide (fun w' (h : Ext W3 w') => new2 (hW3 ▸ h))
  have hx' : Ext W3 W3 := Ext.refl _
  have hs : (a.m == 0) = true → kmay a = true := fun h => kmay_zero (by simpa using h)
  have hc : ((a.m == 0) = true ∧ kmay a = true) ∨ (a.m == 0) = false := by
    cases h : (a.m == 0)
    · exact .inr rfl
    · exact .inl ⟨rfl, hs h⟩
  clear hs
  have hkr := kmeet_rmeet a b
  have HKR := hide hkr
  clear hkr
  have KI := hide (kin_rin (a := a) (b := b) hb)
  rcases hc with ⟨m1, m2⟩ | m1
  all_goals
    go_enter Try.func11, Try.ntmps11
    go_wp2_with fail
    rw [← hW3]
    clear hW3
    (try clear c0_0 c0_1 c0_f c1_0 c1_1 c1_f sz); obtain ⟨⟨c0_0, c0_1, c0_f⟩, ⟨c1_0, c1_1, c1_f⟩, sz⟩ := MK.out _ hx'; (try (have sz1 := Nat.lt_of_succ_lt sz)); (try (have sz0 := Nat.lt_of_succ_lt sz1))
    go_wp2_with (first
      | (go_at_call 34; (with_reducible refine (kmeet_any a b W3 _ (by assumption)).mono ?_); rintro e w' ⟨rfl, hx'⟩; (try clear c0_0 c0_1 c0_f c1_0 c1_1 c1_f sz); obtain ⟨⟨c0_0, c0_1, c0_f⟩, ⟨c1_0, c1_1, c1_f⟩, sz⟩ := MK.out _ hx'; (try (have sz1 := Nat.lt_of_succ_lt sz)); (try (have sz0 := Nat.lt_of_succ_lt sz1)))
      | fail)
    obtain ⟨V1, hV1⟩ : ∃ V1, V1 = w'.alloc (.cells #[.int .u64 (kmeet a b).v, .int .u64 (kmeet a b).m] 48) := ⟨_, rfl⟩
    rw [← hV1]
    obtain ⟨b1, hb1⟩ : ∃ b1, b1 = w'.heap.size := ⟨_, rfl⟩
    rw [← hb1]
    have xV1 : Ext W V1 := by rw [hV1]; exact (x3.trans hx').alloc _
    have xq : Ext W3 V1 := by rw [hV1]; exact hx'.alloc _
    have cn : ∀ w2, Ext V1 w2 → C2 w2 b1 (.int .u64 (kmeet a b).v) (.int .u64 (kmeet a b).m) := fun w2 h => by rw [hb1]; exact (new1 (hV1 ▸ h)).1
    have MV1 := hide (fun w2 (h : Ext V1 w2) => And.intro (cn w2 h) (MK.out w2 (xq.trans h)))
    clear hV1 hb1 xq cn c0_0 c0_1 c0_f c1_0 c1_1 c1_f sz hx'
    try clear sz0
    try clear sz1
    have hx' : Ext V1 V1 := Ext.refl _
    (try clear c0_0 c0_1 c0_f c1_0 c1_1 c1_f c2_0 c2_1 c2_f sz); obtain ⟨⟨c0_0, c0_1, c0_f⟩, ⟨c1_0, c1_1, c1_f⟩, ⟨c2_0, c2_1, c2_f⟩, sz⟩ := MV1.out _ hx'; (try (have sz1 := Nat.lt_of_succ_lt sz)); (try (have sz0 := Nat.lt_of_succ_lt sz1))
    go_wp2_with (first
      | (go_at_call 37; (with_reducible refine (rmeet_to a b V1 _ (by assumption)).mono ?_); rintro e w' ⟨rfl, hx'⟩; (try clear c0_0 c0_1 c0_f c1_0 c1_1 c1_f c2_0 c2_1 c2_f sz); obtain ⟨⟨c0_0, c0_1, c0_f⟩, ⟨c1_0, c1_1, c1_f⟩, ⟨c2_0, c2_1, c2_f⟩, sz⟩ := MV1.out _ hx'; (try (have sz1 := Nat.lt_of_succ_lt sz)); (try (have sz0 := Nat.lt_of_succ_lt sz1)))
      | fail)
    obtain ⟨V2, hV2⟩ : ∃ V2, V2 = w'.alloc (.cells #[.int .u64 (kmeet a b).v, .int .u64 (kmeet a b).m] 48) := ⟨_, rfl⟩
    rw [← hV2]
    obtain ⟨b2, hb2⟩ : ∃ b2, b2 = w'.heap.size := ⟨_, rfl⟩
    rw [← hb2]
    have xV2 : Ext W V2 := by rw [hV2]; exact (xV1.trans hx').alloc _
    have xq : Ext V1 V2 := by rw [hV2]; exact hx'.alloc _
    have cn : ∀ w2, Ext V2 w2 → C2 w2 b2 (.int .u64 (kmeet a b).v) (.int .u64 (kmeet a b).m) := fun w2 h => by rw [hb2]; exact (new1 (hV2 ▸ h)).1
    have MV2 := hide (fun w2 (h : Ext V2 w2) => And.intro (cn w2 h) (MV1.out w2 (xq.trans h)))
    clear hV2 hb2 xq cn c0_0 c0_1 c0_f c1_0 c1_1 c1_f c2_0 c2_1 c2_f sz hx'
    try clear sz0
    try clear sz1
    have hx' : Ext V2 V2 := Ext.refl _
    (try clear c0_0 c0_1 c0_f c1_0 c1_1 c1_f c2_0 c2_1 c2_f c3_0 c3_1 c3_f sz); obtain ⟨⟨c0_0, c0_1, c0_f⟩, ⟨c1_0, c1_1, c1_f⟩, ⟨c2_0, c2_1, c2_f⟩, ⟨c3_0, c3_1, c3_f⟩, sz⟩ := MV2.out _ hx'; (try (have sz1 := Nat.lt_of_succ_lt sz)); (try (have sz0 := Nat.lt_of_succ_lt sz1))
    go_wp2_with (first
      | (go_at_call 38; (with_reducible refine (ksingle_any a V2 _ (by assumption)).mono ?_); rintro e w' ⟨rfl, hx'⟩; (try clear c0_0 c0_1 c0_f c1_0 c1_1 c1_f c2_0 c2_1 c2_f c3_0 c3_1 c3_f sz); obtain ⟨⟨c0_0, c0_1, c0_f⟩, ⟨c1_0, c1_1, c1_f⟩, ⟨c2_0, c2_1, c2_f⟩, ⟨c3_0, c3_1, c3_f⟩, sz⟩ := MV2.out _ hx'; (try (have sz1 := Nat.lt_of_succ_lt sz)); (try (have sz0 := Nat.lt_of_succ_lt sz1)))
      | (go_at_call 39; (with_reducible refine (rsingle_any a V2 _ (by assumption)).mono ?_); rintro e w' ⟨rfl, hx'⟩; (try clear c0_0 c0_1 c0_f c1_0 c1_1 c1_f c2_0 c2_1 c2_f c3_0 c3_1 c3_f sz); obtain ⟨⟨c0_0, c0_1, c0_f⟩, ⟨c1_0, c1_1, c1_f⟩, ⟨c2_0, c2_1, c2_f⟩, ⟨c3_0, c3_1, c3_f⟩, sz⟩ := MV2.out _ hx'; (try (have sz1 := Nat.lt_of_succ_lt sz)); (try (have sz0 := Nat.lt_of_succ_lt sz1)))
      | (go_at_call 40; (with_reducible refine (rmay_any a V2 _ (by assumption)).mono ?_); rintro e w' ⟨rfl, hx'⟩; (try clear c0_0 c0_1 c0_f c1_0 c1_1 c1_f c2_0 c2_1 c2_f c3_0 c3_1 c3_f sz); obtain ⟨⟨c0_0, c0_1, c0_f⟩, ⟨c1_0, c1_1, c1_f⟩, ⟨c2_0, c2_1, c2_f⟩, ⟨c3_0, c3_1, c3_f⟩, sz⟩ := MV2.out _ hx'; (try (have sz1 := Nat.lt_of_succ_lt sz)); (try (have sz0 := Nat.lt_of_succ_lt sz1)))
      | (go_at_call 35; (with_reducible refine (kcommon_k lo hi h1 h2 h3 h4 V2 _ (by assumption)).mono ?_); rintro e w' ⟨rfl, hx'⟩; (try clear c0_0 c0_1 c0_f c1_0 c1_1 c1_f c2_0 c2_1 c2_f c3_0 c3_1 c3_f sz); obtain ⟨⟨c0_0, c0_1, c0_f⟩, ⟨c1_0, c1_1, c1_f⟩, ⟨c2_0, c2_1, c2_f⟩, ⟨c3_0, c3_1, c3_f⟩, sz⟩ := MV2.out _ hx'; (try (have sz1 := Nat.lt_of_succ_lt sz)); (try (have sz0 := Nat.lt_of_succ_lt sz1)))
      | (go_at_call 41; (with_reducible refine (rcommon_k lo hi h1 h2 h3 h4 V2 _ (by assumption)).mono ?_); rintro e w' ⟨rfl, hx'⟩; (try clear c0_0 c0_1 c0_f c1_0 c1_1 c1_f c2_0 c2_1 c2_f c3_0 c3_1 c3_f sz); obtain ⟨⟨c0_0, c0_1, c0_f⟩, ⟨c1_0, c1_1, c1_f⟩, ⟨c2_0, c2_1, c2_f⟩, ⟨c3_0, c3_1, c3_f⟩, sz⟩ := MV2.out _ hx'; (try (have sz1 := Nat.lt_of_succ_lt sz)); (try (have sz0 := Nat.lt_of_succ_lt sz1)))
      | fail)
    have SK := hide (fun w' (h : Ext V2 w') => (⟨h, (MV2.out _ h).1.1, (MV2.out _ h).1.2.1, (MV2.out _ h).2.1.1, (MV2.out _ h).2.1.2.1, (MV2.out _ h).2.2.1.1, (MV2.out _ h).2.2.1.2.1, (MV2.out _ h).2.2.2.1.1, (MV2.out _ h).2.2.2.1.2.1⟩ : Ext V2 w' ∧ w'.cell? ⟨b2, 0, none⟩ = some (.int .u64 (kmeet a b).v) ∧ w'.cell? ⟨b2, 1, none⟩ = some (.int .u64 (kmeet a b).m) ∧ w'.cell? ⟨b1, 0, none⟩ = some (.int .u64 (kmeet a b).v) ∧ w'.cell? ⟨b1, 1, none⟩ = some (.int .u64 (kmeet a b).m) ∧ w'.cell? ⟨W.heap.size, 0, none⟩ = some (.int .u64 a.v) ∧ w'.cell? ⟨W.heap.size, 1, none⟩ = some (.int .u64 a.m) ∧ w'.cell? ⟨W.heap.size + 1, 0, none⟩ = some (.int .u64 b.v) ∧ w'.cell? ⟨W.heap.size + 1, 1, none⟩ = some (.int .u64 b.m)))
    clear c0_0 c0_1 c0_f c1_0 c1_1 c1_f c2_0 c2_1 c2_f c3_0 c3_1 c3_f sz
    try clear sz0
    try clear sz1
    go_region_held3 (fun w' => Ext V2 w' ∧ w'.cell? ⟨b2, 0, none⟩ = some (.int .u64 (kmeet a b).v) ∧ w'.cell? ⟨b2, 1, none⟩ = some (.int .u64 (kmeet a b).m) ∧ w'.cell? ⟨b1, 0, none⟩ = some (.int .u64 (kmeet a b).v) ∧ w'.cell? ⟨b1, 1, none⟩ = some (.int .u64 (kmeet a b).m) ∧ w'.cell? ⟨W.heap.size, 0, none⟩ = some (.int .u64 a.v) ∧ w'.cell? ⟨W.heap.size, 1, none⟩ = some (.int .u64 a.m) ∧ w'.cell? ⟨W.heap.size + 1, 0, none⟩ = some (.int .u64 b.v) ∧ w'.cell? ⟨W.heap.size + 1, 1, none⟩ = some (.int .u64 b.m))
      (first | exact SK.out _ hx' | exact SK.out _ hx'.drew)
      (first
      | (go_at_call 27; have hq := And.left ‹Ext V2 _ ∧ _›; (with_reducible refine (kmay_any a V2 _ hq).mono ?_); rintro e w' ⟨rfl, hx'⟩)
      | (go_at_call 40; have hq := And.left ‹Ext V2 _ ∧ _›; (with_reducible refine (rmay_any a V2 _ hq).mono ?_); rintro e w' ⟨rfl, hx'⟩)
      | (go_at_call 33; have hq := And.left ‹Ext V2 _ ∧ _›; (with_reducible refine (khas_any a v V2 _ hq).mono ?_); rintro e w' ⟨rfl, hx'⟩)
      | (go_at_call 42; have hq := And.left ‹Ext V2 _ ∧ _›; (with_reducible refine (rhas_any a v V2 _ hq).mono ?_); rintro e w' ⟨rfl, hx'⟩)
      | (go_at_call 30; have hq := And.left ‹Ext V2 _ ∧ _›; (with_reducible refine (kjoin_any a b V2 _ hq).mono ?_); rintro e w' ⟨rfl, hx'⟩)
      | (go_at_call 43; have hq := And.left ‹Ext V2 _ ∧ _›; (with_reducible refine (rjoin_any a b V2 _ hq).mono ?_); rintro e w' ⟨rfl, hx'⟩)
      | (go_at_call 31; have hq := And.left ‹Ext V2 _ ∧ _›; (with_reducible refine (kin_any a b V2 _ hq).mono ?_); rintro e w' ⟨rfl, hx'⟩)
      | (go_at_call 44; have hq := And.left ‹Ext V2 _ ∧ _›; (with_reducible refine (rin_to a b hb V2 _ hq).mono ?_); rintro e w' ⟨rfl, hx'⟩)
      | (go_at_call 28; have hq := And.left ‹Ext V2 _ ∧ _›; (with_reducible refine (kkcut_k a w1 ha V2 _ hq).mono ?_); rintro e w' ⟨rfl, hx'⟩)
      | (go_at_call 45; have hq := And.left ‹Ext V2 _ ∧ _›; (with_reducible refine (rkcut_k a w1 ha V2 _ hq).mono ?_); rintro e w' ⟨rfl, hx'⟩)
      | (go_at_call 46; have hq := And.left ‹Ext V2 _ ∧ _›; (with_reducible refine (kone_any v V2 _ hq).mono ?_); rintro e w' ⟨rfl, hx'⟩)
      | (go_at_call 47; have hq := And.left ‹Ext V2 _ ∧ _›; (with_reducible refine (rone_any v V2 _ hq).mono ?_); rintro e w' ⟨rfl, hx'⟩)
      | (go_at_call 29; have hq := And.left ‹Ext V2 _ ∧ _›; (with_reducible refine (kall_any V2 _ hq).mono ?_); rintro e w' ⟨rfl, hx'⟩)
      | (go_at_call 48; have hq := And.left ‹Ext V2 _ ∧ _›; (with_reducible refine (rall_any V2 _ hq).mono ?_); rintro e w' ⟨rfl, hx'⟩)
      | (go_at_call 26; have hq := And.left ‹Ext V2 _ ∧ _›; (with_reducible refine (kwakes_any V2 _ hq).mono ?_); rintro e w' ⟨rfl, hx'⟩))
    clear SK
    go_wp2_with fail
    go_ret
    exact ⟨rfl, xV2.trans (by assumption)⟩
theorem law_KnownTells {H : Type} {enc : TypeId × Value → H} {W : World} {r : Reach} {b0 : Nat} (v0 : Value) (k0 : Value.okWide Try.prog W r b0 48 v0) (d0 : DataW H) (p0 : List MemPlace) (h0 : DataW.Trod enc Try.prog W 0 (fun _ => true) true 48 v0 d0 p0) (_ : ∀ x ∈ p0, x.block < W.heap.size)
    (v1 : Value) (k1 : Value.okWide Try.prog W r b0 48 v1) (d1 : DataW H) (p1 : List MemPlace) (h1 : DataW.Trod enc Try.prog W 0 (fun _ => true) true 48 v1 d1 p1) (_ : ∀ x ∈ p1, x.block < W.heap.size)
    (a2 : Int) (w2 : (Lit.int .u64 a2).wf = true)
    (a3 : Int) (w3 : (Lit.int .u64 a3).wf = true)
    (a4 : Int) (w4 : (Lit.int .u64 a4).wf = true)
    (a5 : Int) (w5 : (Lit.int .i8 a5).wf = true) :
    Calls Try.prog 11 #[v0, v1, .int .u64 a2, .int .u64 a3, .int .u64 a4, .int .i8 a5] W fun e W' => e = .returned (.bool true) ∧ Below W.heap.size W W' := by
  obtain ⟨q0, rfl, g0⟩ := Kn.of_arg k0 h0
  obtain ⟨q1, rfl, g1⟩ := Kn.of_arg k1 h1
  exact kt_walk q0 q1 a2 a3 a4 a5 W g0 g1 (wf_u64 w3).1 (wf_u64 w3).2 (wf_u64 w4).1 (wf_u64 w4).2
end Go.Proofs.Ytkoiaadhbgccaaa
