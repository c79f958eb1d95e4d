/- The walk of the law KnownHalves. -/
import Derived.Test.YtkoiaadhbgccaaaKnW
import Derived.Test.YtkoiaadhbgccaaaKnH
import Derived.Deep.RegionHeld3
import Derived.Deep.RegionWith
import Derived.Deep.DeepCutAuto
set_option linter.unusedVariables false
set_option linter.unusedSimpArgs false
namespace Go.Proofs.Ytkoiaadhbgccaaa
open Go.RowKit Go.ChangeShapes Go.WideShapes

theorem kh_meet (av am bv bm : Int) (h : kmeets ⟨av, am⟩ ⟨bv, bm⟩ = false) (W w : World) (hx : Ext W w) : Calls Try.prog 34 #[.agg #[.int .u64 av, .int .u64 am], .agg #[.int .u64 bv, .int .u64 bm]] w fun e w' => e = .returned (.tuple #[.agg #[.int .u64 (kmeet ⟨av, am⟩ ⟨bv, bm⟩).v, .int .u64 (kmeet ⟨av, am⟩ ⟨bv, bm⟩).m], .bool false]) ∧ Ext W w' := by
  have g := kmeet_any ⟨av, am⟩ ⟨bv, bm⟩ W w hx
  rw [h] at g
  exact g
theorem kh_join (av am bv bm : Int) (k : Kn) (h : kjoin ⟨av, am⟩ ⟨bv, bm⟩ = k) (W w : World) (hx : Ext W w) : Calls Try.prog 30 #[.agg #[.int .u64 av, .int .u64 am], .agg #[.int .u64 bv, .int .u64 bm]] w fun e w' => e = .returned (.agg #[.int .u64 k.v, .int .u64 k.m]) ∧ Ext W w' := by
  have g := kjoin_any ⟨av, am⟩ ⟨bv, bm⟩ W w hx
  rw [h] at g
  exact g
theorem kh_in (av am bv bm : Int) (t : Bool) (h : kin ⟨av, am⟩ ⟨bv, bm⟩ = t) (W w : World) (hx : Ext W w) : Calls Try.prog 31 #[.agg #[.int .u64 av, .int .u64 am], .agg #[.int .u64 bv, .int .u64 bm]] w fun e w' => e = .returned (.bool t) ∧ Ext W w' := by
  have g := kin_any ⟨av, am⟩ ⟨bv, bm⟩ W w hx
  rw [h] at g
  exact g
set_option maxRecDepth 100000 in
set_option maxHeartbeats 8000000 in
theorem kh_walk (a : Kn) (n : Int) (W : World) (ha : a.wf) :
    Calls Try.prog 10 #[.agg #[.int .u64 a.v, .int .u64 a.m], .int .i64 n] W fun e W' => e = .returned (.bool true) ∧ Ext W W' := by
  obtain ⟨W3, hW3⟩ : ∃ W3, W3 = (W.alloc (.cells #[.int .u64 a.v, .int .u64 a.m] 48)) := ⟨_, rfl⟩
  have x3 : Ext W W3 := by rw [hW3]; exact ((Ext.refl W).alloc _)
  have MK := hide (fun w' (h : Ext W3 w') => new1 (hW3 ▸ h))
  have hx' : Ext W3 W3 := Ext.refl _
  obtain ⟨t, ht, htl⟩ := and63_nat n
  obtain ⟨bt, hbt⟩ : ∃ bt : Int, IntKind.u64.wrap (2 ^ t) = bt := ⟨_, rfl⟩
  have HB := hide (fun i (hi : i < 64) => (by rw [← hbt, shl_bit htl]; exact tb_pow htl hi : tb bt i = decide (t = i)))
  have hc : kmay a = false ∨ (kmay a = true ∧ (bits .and .u64 a.m bt == 0) = true) ∨ (kmay a = true ∧ (bits .and .u64 a.m bt == 0) = false) := by
    cases kmay a <;> cases (bits .and .u64 a.m bt == 0) <;> simp
  rcases hc with m1 | ⟨m1, m2⟩ | ⟨m1, m2⟩
  · go_enter Try.func10, Try.ntmps10
    go_wp2_with fail
    rw [← hW3]
    clear hW3
    (try clear c0_0 c0_1 c0_f sz); obtain ⟨⟨c0_0, c0_1, c0_f⟩, sz⟩ := MK.out _ hx'; (try (have sz1 := Nat.lt_of_succ_lt sz)); (try (have sz0 := Nat.lt_of_succ_lt sz1))
    go_wp2_with (first
      | (go_at_call 27; (with_reducible refine (kmay_any a W3 _ (by assumption)).mono ?_); rintro e w' ⟨rfl, hx'⟩; (try clear c0_0 c0_1 c0_f sz); obtain ⟨⟨c0_0, c0_1, c0_f⟩, sz⟩ := MK.out _ hx'; (try (have sz1 := Nat.lt_of_succ_lt sz)); (try (have sz0 := Nat.lt_of_succ_lt sz1)))
      | (go_at_call 26; (with_reducible refine (kwakes_any W3 _ (by assumption)).mono ?_); rintro e w' ⟨rfl, hx'⟩; (try clear c0_0 c0_1 c0_f sz); obtain ⟨⟨c0_0, c0_1, c0_f⟩, sz⟩ := MK.out _ hx'; (try (have sz1 := Nat.lt_of_succ_lt sz)); (try (have sz0 := Nat.lt_of_succ_lt sz1)))
      | fail)
    go_ret
    exact ⟨rfl, x3.trans (by assumption)⟩
  · go_enter Try.func10, Try.ntmps10
    go_wp2_with fail
    rw [← hW3]
    clear hW3
    (try clear c0_0 c0_1 c0_f sz); obtain ⟨⟨c0_0, c0_1, c0_f⟩, sz⟩ := MK.out _ hx'; (try (have sz1 := Nat.lt_of_succ_lt sz)); (try (have sz0 := Nat.lt_of_succ_lt sz1))
    go_wp2_with (first
      | (go_at_call 27; (with_reducible refine (kmay_any a W3 _ (by assumption)).mono ?_); rintro e w' ⟨rfl, hx'⟩; (try clear c0_0 c0_1 c0_f sz); obtain ⟨⟨c0_0, c0_1, c0_f⟩, sz⟩ := MK.out _ hx'; (try (have sz1 := Nat.lt_of_succ_lt sz)); (try (have sz0 := Nat.lt_of_succ_lt sz1)))
      | (go_at_call 26; (with_reducible refine (kwakes_any W3 _ (by assumption)).mono ?_); rintro e w' ⟨rfl, hx'⟩; (try clear c0_0 c0_1 c0_f sz); obtain ⟨⟨c0_0, c0_1, c0_f⟩, sz⟩ := MK.out _ hx'; (try (have sz1 := Nat.lt_of_succ_lt sz)); (try (have sz0 := Nat.lt_of_succ_lt sz1)))
      | fail)
    go_ret
    exact ⟨rfl, x3.trans (by assumption)⟩
  · have f1 := half_meet ha m1 htl HB.out m2
    have f2 := half_join ha m1 htl HB.out m2
    have f3 := half_in1 ha m1 htl HB.out m2
    have f4 := half_in2 ha m1 htl HB.out m2
    have f5 := half_out ha m1 htl HB.out m2
    have F1 := hide f1
    have F2 := hide f2
    have F3 := hide f3
    have F4 := hide f4
    have F5 := hide f5
    clear f1 f2 f3 f4 f5
    go_enter Try.func10, Try.ntmps10
    go_wp2_with fail
    rw [← hW3]
    clear hW3
    (try clear c0_0 c0_1 c0_f sz); obtain ⟨⟨c0_0, c0_1, c0_f⟩, sz⟩ := MK.out _ hx'; (try (have sz1 := Nat.lt_of_succ_lt sz)); (try (have sz0 := Nat.lt_of_succ_lt sz1))
    go_wp2_with (first
      | (go_at_call 27; (with_reducible refine (kmay_any a W3 _ (by assumption)).mono ?_); rintro e w' ⟨rfl, hx'⟩; (try clear c0_0 c0_1 c0_f sz); obtain ⟨⟨c0_0, c0_1, c0_f⟩, sz⟩ := MK.out _ hx'; (try (have sz1 := Nat.lt_of_succ_lt sz)); (try (have sz0 := Nat.lt_of_succ_lt sz1)))
      | fail)
    obtain ⟨V1, hV1⟩ : ∃ V1, V1 = ((w'.alloc (.cells #[.int .u64 a.v, .int .u64 (bits .andNot .u64 a.m bt)] 48)).alloc (.cells #[.int .u64 (bits .or .u64 a.v bt), .int .u64 (bits .andNot .u64 a.m bt)] 48)) := ⟨_, rfl⟩
    rw [← hV1]
    obtain ⟨b1, hb1⟩ : ∃ b1, b1 = w'.heap.size := ⟨_, rfl⟩
    try simp only [World.size_alloc]
    rw [← hb1]
    have xV1 : Ext W V1 := by rw [hV1]; exact (((x3.trans hx').alloc _).alloc _)
    have xq : Ext W3 V1 := by rw [hV1]; exact ((hx'.alloc _).alloc _)
    have cn : ∀ w2, Ext V1 w2 → C2 w2 (b1) (.int .u64 a.v) (.int .u64 (bits .andNot .u64 a.m bt)) ∧ C2 w2 (b1 + 1) (.int .u64 (bits .or .u64 a.v bt)) (.int .u64 (bits .andNot .u64 a.m bt)) := fun w2 h => by rw [hb1]; have hh := new2 (hV1 ▸ h); exact ⟨hh.1, hh.2.1⟩
    have MV1 := hide (fun w2 (h : Ext V1 w2) => (⟨(cn w2 h).1, (cn w2 h).2, MK.out w2 (xq.trans h)⟩ : C2 w2 (b1) (.int .u64 a.v) (.int .u64 (bits .andNot .u64 a.m bt)) ∧ C2 w2 (b1 + 1) (.int .u64 (bits .or .u64 a.v bt)) (.int .u64 (bits .andNot .u64 a.m bt)) ∧ _))
    clear hV1 hb1 xq cn c0_0 c0_1 c0_f sz hx'
    try clear sz0
    try clear sz1
    have hx' : Ext V1 V1 := Ext.refl _
    (try clear c0_0 c0_1 c0_f c1_0 c1_1 c1_f c2_0 c2_1 c2_f sz); obtain ⟨⟨c0_0, c0_1, c0_f⟩, ⟨c1_0, c1_1, c1_f⟩, ⟨c2_0, c2_1, c2_f⟩, sz⟩ := MV1.out _ hx'; (try (have sz1 := Nat.lt_of_succ_lt sz)); (try (have sz0 := Nat.lt_of_succ_lt sz1))
    go_wp2_with (first
      | (go_at_call 34; (with_reducible refine (kh_meet _ _ _ _ F1.out V1 _ (by assumption)).mono ?_); rintro e w' ⟨rfl, hx'⟩; (try clear c0_0 c0_1 c0_f c1_0 c1_1 c1_f c2_0 c2_1 c2_f sz); obtain ⟨⟨c0_0, c0_1, c0_f⟩, ⟨c1_0, c1_1, c1_f⟩, ⟨c2_0, c2_1, c2_f⟩, sz⟩ := MV1.out _ hx'; (try (have sz1 := Nat.lt_of_succ_lt sz)); (try (have sz0 := Nat.lt_of_succ_lt sz1)))
      | fail)
    obtain ⟨V2, hV2⟩ : ∃ V2, V2 = w'.alloc (.cells #[.int .u64 (kmeet ⟨a.v, (bits .andNot .u64 a.m bt)⟩ ⟨(bits .or .u64 a.v bt), (bits .andNot .u64 a.m bt)⟩).v, .int .u64 (kmeet ⟨a.v, (bits .andNot .u64 a.m bt)⟩ ⟨(bits .or .u64 a.v bt), (bits .andNot .u64 a.m bt)⟩).m] 48) := ⟨_, rfl⟩
    rw [← hV2]
    obtain ⟨b2, hb2⟩ : ∃ b2, b2 = w'.heap.size := ⟨_, rfl⟩
    rw [← hb2]
    have xV2 : Ext W V2 := by rw [hV2]; exact (xV1.trans hx').alloc _
    have xq : Ext V1 V2 := by rw [hV2]; exact hx'.alloc _
    have cn : ∀ w2, Ext V2 w2 → C2 w2 b2 (.int .u64 (kmeet ⟨a.v, (bits .andNot .u64 a.m bt)⟩ ⟨(bits .or .u64 a.v bt), (bits .andNot .u64 a.m bt)⟩).v) (.int .u64 (kmeet ⟨a.v, (bits .andNot .u64 a.m bt)⟩ ⟨(bits .or .u64 a.v bt), (bits .andNot .u64 a.m bt)⟩).m) := fun w2 h => by rw [hb2]; exact (new1 (hV2 ▸ h)).1
    have MV2 := hide (fun w2 (h : Ext V2 w2) => And.intro (cn w2 h) (MV1.out w2 (xq.trans h)))
    clear hV2 hb2 xq cn c0_0 c0_1 c0_f c1_0 c1_1 c1_f c2_0 c2_1 c2_f sz hx'
    try clear sz0
    try clear sz1
    have hx' : Ext V2 V2 := Ext.refl _
    (try clear c0_0 c0_1 c0_f c1_0 c1_1 c1_f c2_0 c2_1 c2_f c3_0 c3_1 c3_f sz); obtain ⟨⟨c0_0, c0_1, c0_f⟩, ⟨c1_0, c1_1, c1_f⟩, ⟨c2_0, c2_1, c2_f⟩, ⟨c3_0, c3_1, c3_f⟩, sz⟩ := MV2.out _ hx'; (try (have sz1 := Nat.lt_of_succ_lt sz)); (try (have sz0 := Nat.lt_of_succ_lt sz1))
    have SK := hide (fun w' (h : Ext V2 w') => (⟨h, (MV2.out _ h).1.1, (MV2.out _ h).1.2.1, (MV2.out _ h).2.1.1, (MV2.out _ h).2.1.2.1, (MV2.out _ h).2.2.1.1, (MV2.out _ h).2.2.1.2.1, (MV2.out _ h).2.2.2.1.1, (MV2.out _ h).2.2.2.1.2.1⟩ : Ext V2 w' ∧ w'.cell? ⟨b2, 0, none⟩ = some (.int .u64 (kmeet ⟨a.v, (bits .andNot .u64 a.m bt)⟩ ⟨(bits .or .u64 a.v bt), (bits .andNot .u64 a.m bt)⟩).v) ∧ w'.cell? ⟨b2, 1, none⟩ = some (.int .u64 (kmeet ⟨a.v, (bits .andNot .u64 a.m bt)⟩ ⟨(bits .or .u64 a.v bt), (bits .andNot .u64 a.m bt)⟩).m) ∧ w'.cell? ⟨b1, 0, none⟩ = some (.int .u64 a.v) ∧ w'.cell? ⟨b1, 1, none⟩ = some (.int .u64 (bits .andNot .u64 a.m bt)) ∧ w'.cell? ⟨(b1 + 1), 0, none⟩ = some (.int .u64 (bits .or .u64 a.v bt)) ∧ w'.cell? ⟨(b1 + 1), 1, none⟩ = some (.int .u64 (bits .andNot .u64 a.m bt)) ∧ w'.cell? ⟨W.heap.size, 0, none⟩ = some (.int .u64 a.v) ∧ w'.cell? ⟨W.heap.size, 1, none⟩ = some (.int .u64 a.m)))
    clear c0_0 c0_1 c0_f c1_0 c1_1 c1_f c2_0 c2_1 c2_f c3_0 c3_1 c3_f sz
    try clear sz0
    try clear sz1
    go_region_held3 (fun w' => Ext V2 w' ∧ w'.cell? ⟨b2, 0, none⟩ = some (.int .u64 (kmeet ⟨a.v, (bits .andNot .u64 a.m bt)⟩ ⟨(bits .or .u64 a.v bt), (bits .andNot .u64 a.m bt)⟩).v) ∧ w'.cell? ⟨b2, 1, none⟩ = some (.int .u64 (kmeet ⟨a.v, (bits .andNot .u64 a.m bt)⟩ ⟨(bits .or .u64 a.v bt), (bits .andNot .u64 a.m bt)⟩).m) ∧ w'.cell? ⟨b1, 0, none⟩ = some (.int .u64 a.v) ∧ w'.cell? ⟨b1, 1, none⟩ = some (.int .u64 (bits .andNot .u64 a.m bt)) ∧ w'.cell? ⟨(b1 + 1), 0, none⟩ = some (.int .u64 (bits .or .u64 a.v bt)) ∧ w'.cell? ⟨(b1 + 1), 1, none⟩ = some (.int .u64 (bits .andNot .u64 a.m bt)) ∧ w'.cell? ⟨W.heap.size, 0, none⟩ = some (.int .u64 a.v) ∧ w'.cell? ⟨W.heap.size, 1, none⟩ = some (.int .u64 a.m))
      (first | exact SK.out _ hx' | exact SK.out _ hx'.drew)
      (first
      | (go_at_call 30; have hq := And.left ‹Ext V2 _ ∧ _›; (with_reducible refine (kh_join _ _ _ _ a F2.out V2 _ hq).mono ?_); rintro e w' ⟨rfl, hx'⟩)
      | (go_at_call 31; have hq := And.left ‹Ext V2 _ ∧ _›; (with_reducible refine (kh_in _ _ _ _ true F3.out V2 _ hq).mono ?_); rintro e w' ⟨rfl, hx'⟩)
      | (go_at_call 31; have hq := And.left ‹Ext V2 _ ∧ _›; (with_reducible refine (kh_in _ _ _ _ true F4.out V2 _ hq).mono ?_); rintro e w' ⟨rfl, hx'⟩)
      | (go_at_call 31; have hq := And.left ‹Ext V2 _ ∧ _›; (with_reducible refine (kh_in _ _ _ _ false F5.out V2 _ hq).mono ?_); rintro e w' ⟨rfl, hx'⟩)
      | (go_at_call 26; have hq := And.left ‹Ext V2 _ ∧ _›; (with_reducible refine (kwakes_any V2 _ hq).mono ?_); rintro e w' ⟨rfl, hx'⟩))
    clear SK
    go_wp2_with fail
    go_ret
    exact ⟨rfl, xV2.trans (by assumption)⟩
theorem law_KnownHalves {H : Type} {enc : TypeId × Value → H} {W : World} {r : Reach} {b0 : Nat} (v0 : Value) (k0 : Value.okWide Try.prog W r b0 48 v0) (d0 : DataW H) (p0 : List MemPlace) (h0 : DataW.Trod enc Try.prog W 0 (fun _ => true) true 48 v0 d0 p0) (_ : ∀ x ∈ p0, x.block < W.heap.size)
    (a1 : Int) (w1 : (Lit.int .i64 a1).wf = true) :
    Calls Try.prog 10 #[v0, .int .i64 a1] W fun e W' => e = .returned (.bool true) ∧ Below W.heap.size W W' := by
  obtain ⟨q0, rfl, g0⟩ := Kn.of_arg k0 h0
  exact kh_walk q0 a1 W g0
end Go.Proofs.Ytkoiaadhbgccaaa
