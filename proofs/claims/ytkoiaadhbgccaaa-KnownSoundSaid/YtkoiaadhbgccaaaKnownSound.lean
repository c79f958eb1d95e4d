/- The walk of the law KnownSound. -/
import Derived.Test.YtkoiaadhbgccaaaKnK
import Derived.Test.YtkoiaadhbgccaaaKnL4
import Derived.Test.YtkoiaadhbgccaaaKnL5
import Derived.Deep.RegionHeld3
import Derived.Deep.RegionWith
import Derived.Deep.DeepCutAuto
set_option linter.unusedVariables false
set_option linter.unusedSimpArgs false
namespace Go.Proofs.Ytkoiaadhbgccaaa
open Go.RowKit Go.ChangeShapes Go.WideShapes

theorem ksome_any (a : Kn) (x : Int) (W w : World) (hx : Ext W w) : Calls Try.prog 32 #[.agg #[.int .u64 a.v, .int .u64 a.m], .int .u64 x] w fun e w' => e = .returned (.int .u64 (ksome a x)) ∧ Ext W w' := by
  go_enter Try.func32, Try.ntmps32
  go_wp2_with fail
  go_ret
  exact ⟨rfl, hx.alloc _⟩
set_option maxRecDepth 100000 in
set_option maxHeartbeats 16000000 in
theorem ks_walk (op w1 : Int) (a b : Kn) (x y z : Int) (W : World) (ha : a.wf) (hb : b.wf) (x0 : 0 ≤ x) (x1 : x ≤ 18446744073709551615) (y0 : 0 ≤ y) (y1 : y ≤ 18446744073709551615) :
    Calls Try.prog 9 #[.int .i8 op, .int .i8 w1, .agg #[.int .u64 a.v, .int .u64 a.m], .agg #[.int .u64 b.v, .int .u64 b.m], .int .u64 x, .int .u64 y, .int .u64 z] W fun e W' => e = .returned (.bool true) ∧ Ext W W' := by
  obtain ⟨W3, hW3⟩ : ∃ W3, W3 = ((W.alloc (.cells #[.int .u64 a.v, .int .u64 a.m] 48)).alloc (.cells #[.int .u64 b.v, .int .u64 b.m] 48)) := ⟨_, rfl⟩
  have x3 : Ext W W3 := by rw [hW3]; exact (((Ext.refl W).alloc _).alloc _)
  have MK := hide (fun w' (h : Ext W3 w') => new2 (hW3 ▸ h))
  have hx' : Ext W3 W3 := Ext.refl _
  have hc : kmay a = false ∨ (kmay a = true ∧ kmay b = false) ∨ (kmay a = true ∧ kmay b = true) := by
    cases kmay a <;> cases kmay b <;> simp
  rcases hc with m1 | ⟨m1, m2⟩ | ⟨m1, m2⟩
  · have e1 : (bits .and .u64 a.v a.m == 0) = false := m1
    have e2 : (bits .and .u64 a.v a.m != 0) = true := by rw [bne, e1]; rfl
    have M1 := hide (m1)
    clear m1
    go_enter Try.func9, Try.ntmps9
    go_wp2_with fail
    rw [← hW3]
    clear hW3
    (try clear c0_0 c0_1 c0_f c1_0 c1_1 c1_f sz); obtain ⟨⟨c0_0, c0_1, c0_f⟩, ⟨c1_0, c1_1, c1_f⟩, sz⟩ := MK.out _ hx'; (try (have sz1 := Nat.lt_of_succ_lt sz)); (try (have sz0 := Nat.lt_of_succ_lt sz1))
    have SK := hide (fun w' (h : Ext W3 w') => (⟨h, (MK.out _ h).1.1, (MK.out _ h).1.2.1, (MK.out _ h).2.1.1, (MK.out _ h).2.1.2.1⟩ : Ext W3 w' ∧ w'.cell? ⟨W.heap.size, 0, none⟩ = some (.int .u64 a.v) ∧ w'.cell? ⟨W.heap.size, 1, none⟩ = some (.int .u64 a.m) ∧ w'.cell? ⟨W.heap.size + 1, 0, none⟩ = some (.int .u64 b.v) ∧ w'.cell? ⟨W.heap.size + 1, 1, none⟩ = some (.int .u64 b.m)))
    clear c0_0 c0_1 c0_f c1_0 c1_1 c1_f sz
    try clear sz0
    try clear sz1
    go_region_held3 (fun w' => Ext W3 w' ∧ w'.cell? ⟨W.heap.size, 0, none⟩ = some (.int .u64 a.v) ∧ w'.cell? ⟨W.heap.size, 1, none⟩ = some (.int .u64 a.m) ∧ w'.cell? ⟨W.heap.size + 1, 0, none⟩ = some (.int .u64 b.v) ∧ w'.cell? ⟨W.heap.size + 1, 1, none⟩ = some (.int .u64 b.m))
      (first | exact SK.out _ hx' | exact SK.out _ hx'.drew)
      (first
      | (go_at_call 27; have hq := And.left ‹Ext W3 _ ∧ _›; (with_reducible refine (kc_may a false M1.out W3 _ hq).mono ?_); rintro e w' ⟨rfl, hx'⟩)
      | (go_at_call 26; have hq := And.left ‹Ext W3 _ ∧ _›; (with_reducible refine (kwakes_any W3 _ hq).mono ?_); rintro e w' ⟨rfl, hx'⟩))
    clear SK
    go_wp2_with fail
    go_ret
    exact ⟨rfl, x3.trans (by assumption)⟩
  · have e1 : (bits .and .u64 a.v a.m == 0) = true := m1
    have e2 : (bits .and .u64 a.v a.m != 0) = false := by rw [bne, e1]; rfl
    have e3 : (bits .and .u64 b.v b.m == 0) = false := m2
    have e4 : (bits .and .u64 b.v b.m != 0) = true := by rw [bne, e3]; rfl
    have M1 := hide (m1)
    clear m1 m2
    go_enter Try.func9, Try.ntmps9
    go_wp2_with fail
    rw [← hW3]
    clear hW3
    (try clear c0_0 c0_1 c0_f c1_0 c1_1 c1_f sz); obtain ⟨⟨c0_0, c0_1, c0_f⟩, ⟨c1_0, c1_1, c1_f⟩, sz⟩ := MK.out _ hx'; (try (have sz1 := Nat.lt_of_succ_lt sz)); (try (have sz0 := Nat.lt_of_succ_lt sz1))
    have SK := hide (fun w' (h : Ext W3 w') => (⟨h, (MK.out _ h).1.1, (MK.out _ h).1.2.1, (MK.out _ h).2.1.1, (MK.out _ h).2.1.2.1⟩ : Ext W3 w' ∧ w'.cell? ⟨W.heap.size, 0, none⟩ = some (.int .u64 a.v) ∧ w'.cell? ⟨W.heap.size, 1, none⟩ = some (.int .u64 a.m) ∧ w'.cell? ⟨W.heap.size + 1, 0, none⟩ = some (.int .u64 b.v) ∧ w'.cell? ⟨W.heap.size + 1, 1, none⟩ = some (.int .u64 b.m)))
    clear c0_0 c0_1 c0_f c1_0 c1_1 c1_f sz
    try clear sz0
    try clear sz1
    go_region_held3 (fun w' => Ext W3 w' ∧ w'.cell? ⟨W.heap.size, 0, none⟩ = some (.int .u64 a.v) ∧ w'.cell? ⟨W.heap.size, 1, none⟩ = some (.int .u64 a.m) ∧ w'.cell? ⟨W.heap.size + 1, 0, none⟩ = some (.int .u64 b.v) ∧ w'.cell? ⟨W.heap.size + 1, 1, none⟩ = some (.int .u64 b.m))
      (first | exact SK.out _ hx' | exact SK.out _ hx'.drew)
      (first
      | (go_at_call 27; have hq := And.left ‹Ext W3 _ ∧ _›; (with_reducible refine (kc_may a true M1.out W3 _ hq).mono ?_); rintro e w' ⟨rfl, hx'⟩)
      | (go_at_call 26; have hq := And.left ‹Ext W3 _ ∧ _›; (with_reducible refine (kwakes_any W3 _ hq).mono ?_); rintro e w' ⟨rfl, hx'⟩))
    clear SK
    go_wp2_with fail
    go_ret
    exact ⟨rfl, x3.trans (by assumption)⟩
  · have e1 : (bits .and .u64 a.v a.m == 0) = true := m1
    have e2 : (bits .and .u64 a.v a.m != 0) = false := by rw [bne, e1]; rfl
    have e3 : (bits .and .u64 b.v b.m == 0) = true := m2
    have e4 : (bits .and .u64 b.v b.m != 0) = false := by rw [bne, e3]; rfl
    obtain ⟨A, hA⟩ : ∃ A, khas a z = A := ⟨_, rfl⟩
    obtain ⟨B, hB⟩ : ∃ B, khas b z = B := ⟨_, rfl⟩
    obtain ⟨M, hM⟩ : ∃ M, kmeets a b = M := ⟨_, rfl⟩
    obtain ⟨H, hH⟩ : ∃ H, khas (kmeet a b) z = H := ⟨_, rfl⟩
    obtain ⟨I, hI⟩ : ∃ I, kin a b = I := ⟨_, rfl⟩
    have e5 : (bits .andNot .u64 z a.m == a.v) = A := by rw [← hA, khas_may_eq m1]
    have r1 : M = true → H = (A && B) := fun h => by rw [← hH, ← hA, ← hB]; exact kmeet_has ha hb (hM.trans h) z
    have r2 : M = false → (A && B) = false := fun h => by rw [← hA, ← hB]; exact kmeet_none ha hb (hM.trans h) z
    have r3 : I = true → A = true → B = true := fun h1 h2 => by rw [← hB]; exact kin_has ha hb (hI.trans h1) (hA.trans h2)
    have R : Hid ((M = true → H = (A && B)) ∧ (M = false → (A && B) = false) ∧ (I = true → A = true → B = true)) := hide ⟨r1, r2, r3⟩
    clear r1 r2 r3
    obtain ⟨lo, hi, hlh, hlb⟩ : ∃ lo hi : Int, ((x ≤ y ∧ lo = x ∧ hi = y) ∨ (y < x ∧ lo = y ∧ hi = x)) ∧ (0 ≤ lo ∧ lo ≤ 18446744073709551615 ∧ 0 ≤ hi ∧ hi ≤ 18446744073709551615 ∧ lo ≤ hi) := by
      by_cases h : x ≤ y
      · exact ⟨x, y, .inl ⟨h, rfl, rfl⟩, by omega⟩
      · exact ⟨y, x, .inr ⟨by omega, rfl, rfl⟩, by omega⟩
    have LB := hide hlb
    have LH := hide hlh
    clear hlb hlh
    obtain ⟨G, hG⟩ : ∃ G : Bool, decide (lo ≤ z) = G := ⟨_, rfl⟩
    obtain ⟨L, hL⟩ : ∃ L : Bool, decide (z ≤ hi) = L := ⟨_, rfl⟩
    obtain ⟨C, hC⟩ : ∃ C : Bool, khas (kcommon lo hi) z = C := ⟨_, rfl⟩
    have R2 : Hid (G = true → L = true → C = true) := hide (fun h1 h2 => by
      rw [← hC]
      exact kcommon_has LB.out.1 LB.out.2.1 LB.out.2.2.1 LB.out.2.2.2.1 (of_decide_eq_true (hG.trans h1)) (of_decide_eq_true (hL.trans h2)))
    obtain ⟨rv, ev, hd, hr⟩ : ∃ rv ev : Int, (∀ w, Calls Try.prog 36 #[.int .i8 op, .int .i8 w1, .int .u64 (ksome a x), .int .u64 (ksome b y)] w fun e w' => e = .returned (.tuple #[.int .u64 rv, .int .i64 ev]) ∧ w = w') ∧ ((ev = 0 ∧ khas (kdo op w1 a b) rv = true) ∨ ev = 2) := by
      by_cases hbad : (decide (op < 0) || decide (12 < op) || !zlong w1) = true
      · exact ⟨0, 2, fun w => rdo_bad op w1 _ _ w hbad, .inr rfl⟩
      · have h0 : 0 ≤ op ∧ op ≤ 12 ∧ zlong w1 = true := by
          revert hbad
          cases zlong w1 <;> simp <;> omega
        have hw : w1 = 32 ∨ w1 = 64 := by
          have := h0.2.2
          simpa [zlong] using this
        refine ⟨zdo op w1 (ksome a x) (ksome b y), 0, fun w => rdo_any op w1 _ _ w (ksome_bd a x).1 (ksome_bd a x).2 (ksome_bd b y).1 (ksome_bd b y).2 h0.1 h0.2.1 h0.2.2, .inl ⟨rfl, ?_⟩⟩
        exact kdo_has h0.1 h0.2.1 hw ha hb (ksome_has ha m1 x) (ksome_has hb m2 y) (ksome_bd a x) (ksome_bd b y)
    have HD := hide (hd)
    have HR := hide (hr)
    have HA := hide (hA)
    have HB := hide (hB)
    have HM := hide (hM)
    have HH := hide (hH)
    have HI := hide (hI)
    have HG := hide (hG)
    have HL := hide (hL)
    have HC := hide (hC)
    have M1 := hide (m1)
    have P1 := hide (ksome_has ha m1 x)
    have P2 := hide (ksome_has hb m2 y)
    have J0 := hide (kmay_join a b)
    have J1 := hide (kin_join1 m1 m2)
    have J2 := hide (kin_join2 m1 m2)
    have J3 := hide (kin_has ha (wf_kjoin a b) (kin_join1 m1 m2) (ksome_has ha m1 x))
    have J4 := hide (kin_has hb (wf_kjoin a b) (kin_join2 m1 m2) (ksome_has hb m2 y))
    have KC1 := hide ((kcommon_has LB.out.1 LB.out.2.1 LB.out.2.2.1 LB.out.2.2.2.1 (Int.le_refl _) LB.out.2.2.2.2 : khas (kcommon lo hi) lo = true))
    have KC2 := hide ((kcommon_has LB.out.1 LB.out.2.1 LB.out.2.2.1 LB.out.2.2.2.1 LB.out.2.2.2.2 (Int.le_refl _) : khas (kcommon lo hi) hi = true))
    have D0 := hide ((kmay_kdo ha hb : kmay (kdo op w1 a b) = true))
    clear hd hr hA hB hM hH hI hG hL hC m1 m2
    go_enter Try.func9, Try.ntmps9
    go_wp2_with fail
    rw [← hW3]
    clear hW3
    (try clear c0_0 c0_1 c0_f c1_0 c1_1 c1_f sz); obtain ⟨⟨c0_0, c0_1, c0_f⟩, ⟨c1_0, c1_1, c1_f⟩, sz⟩ := MK.out _ hx'; (try (have sz1 := Nat.lt_of_succ_lt sz)); (try (have sz0 := Nat.lt_of_succ_lt sz1))
    go_upto_region 3 with fail
    go_cut [15, 16] (fun s15 s16 wx => s15 = .int .u64 (ksome a x) ∧ s16 = .int .u64 (ksome b y) ∧ Hid (Ext W3 wx))
    case first =>
      as_aux_lemma =>
        have SK := hide (fun w' (h : Ext W3 w') => (⟨h, (MK.out _ h).1.1, (MK.out _ h).1.2.1, (MK.out _ h).2.1.1, (MK.out _ h).2.1.2.1⟩ : Ext W3 w' ∧ w'.cell? ⟨W.heap.size, 0, none⟩ = some (.int .u64 a.v) ∧ w'.cell? ⟨W.heap.size, 1, none⟩ = some (.int .u64 a.m) ∧ w'.cell? ⟨W.heap.size + 1, 0, none⟩ = some (.int .u64 b.v) ∧ w'.cell? ⟨W.heap.size + 1, 1, none⟩ = some (.int .u64 b.m)))
        clear c0_0 c0_1 c0_f c1_0 c1_1 c1_f sz
        try clear sz0
        try clear sz1
        go_region_held3 (fun w' => Ext W3 w' ∧ w'.cell? ⟨W.heap.size, 0, none⟩ = some (.int .u64 a.v) ∧ w'.cell? ⟨W.heap.size, 1, none⟩ = some (.int .u64 a.m) ∧ w'.cell? ⟨W.heap.size + 1, 0, none⟩ = some (.int .u64 b.v) ∧ w'.cell? ⟨W.heap.size + 1, 1, none⟩ = some (.int .u64 b.m))
          (first | exact SK.out _ hx' | exact SK.out _ hx'.drew)
          (first
          | (go_at_call 32; have hq := And.left ‹Ext W3 _ ∧ _›; (with_reducible refine (ksome_any a x W3 _ hq).mono ?_); rintro e w' ⟨rfl, hx'⟩)
          | (go_at_call 32; have hq := And.left ‹Ext W3 _ ∧ _›; (with_reducible refine (ksome_any b y W3 _ hq).mono ?_); rintro e w' ⟨rfl, hx'⟩))
        clear SK
        all_goals
          go_wp2_with fail
          go_meet
          exact ⟨rfl, rfl, hide (by assumption)⟩
    case rest =>
      as_aux_lemma =>
        obtain ⟨rfl, rfl, hx'⟩ := hcut
        replace hx' := hx'.out
        (try clear c0_0 c0_1 c0_f c1_0 c1_1 c1_f sz); obtain ⟨⟨c0_0, c0_1, c0_f⟩, ⟨c1_0, c1_1, c1_f⟩, sz⟩ := MK.out _ hx'; (try (have sz1 := Nat.lt_of_succ_lt sz)); (try (have sz0 := Nat.lt_of_succ_lt sz1))
        go_wp2_with fail
        have SK := hide (fun w' (h : Ext W3 w') => (⟨h, (MK.out _ h).1.1, (MK.out _ h).1.2.1, (MK.out _ h).2.1.1, (MK.out _ h).2.1.2.1⟩ : Ext W3 w' ∧ w'.cell? ⟨W.heap.size, 0, none⟩ = some (.int .u64 a.v) ∧ w'.cell? ⟨W.heap.size, 1, none⟩ = some (.int .u64 a.m) ∧ w'.cell? ⟨W.heap.size + 1, 0, none⟩ = some (.int .u64 b.v) ∧ w'.cell? ⟨W.heap.size + 1, 1, none⟩ = some (.int .u64 b.m)))
        clear c0_0 c0_1 c0_f c1_0 c1_1 c1_f sz
        try clear sz0
        try clear sz1
        go_region_held3 (fun w' => Ext W3 w' ∧ w'.cell? ⟨W.heap.size, 0, none⟩ = some (.int .u64 a.v) ∧ w'.cell? ⟨W.heap.size, 1, none⟩ = some (.int .u64 a.m) ∧ w'.cell? ⟨W.heap.size + 1, 0, none⟩ = some (.int .u64 b.v) ∧ w'.cell? ⟨W.heap.size + 1, 1, none⟩ = some (.int .u64 b.m))
          (first | exact SK.out _ hx' | exact SK.out _ hx'.drew)
          (first
          | (go_at_call 33; have hq := And.left ‹Ext W3 _ ∧ _›; (with_reducible refine (kc_has a _ true P1.out W3 _ hq).mono ?_); rintro e w' ⟨rfl, hx'⟩)
          | (go_at_call 33; have hq := And.left ‹Ext W3 _ ∧ _›; (with_reducible refine (kc_has b _ true P2.out W3 _ hq).mono ?_); rintro e w' ⟨rfl, hx'⟩)
          | (go_at_call 33; have hq := And.left ‹Ext W3 _ ∧ _›; (with_reducible refine (kc_has a z A HA.out W3 _ hq).mono ?_); rintro e w' ⟨rfl, hx'⟩))
        clear SK
        (try clear c0_0 c0_1 c0_f c1_0 c1_1 c1_f sz); obtain ⟨⟨c0_0, c0_1, c0_f⟩, ⟨c1_0, c1_1, c1_f⟩, sz⟩ := MK.out _ hx'; (try (have sz1 := Nat.lt_of_succ_lt sz)); (try (have sz0 := Nat.lt_of_succ_lt sz1))
        go_wp2_with (first
          | (go_at_call 30; (with_reducible refine (kjoin_any a b W3 _ (by assumption)).mono ?_); rintro e w' ⟨rfl, hx'⟩; (try clear c0_0 c0_1 c0_f c1_0 c1_1 c1_f sz); obtain ⟨⟨c0_0, c0_1, c0_f⟩, ⟨c1_0, c1_1, c1_f⟩, sz⟩ := MK.out _ hx'; (try (have sz1 := Nat.lt_of_succ_lt sz)); (try (have sz0 := Nat.lt_of_succ_lt sz1)))
          | fail)
        obtain ⟨V1, hV1⟩ : ∃ V1, V1 = w'.alloc (.cells #[.int .u64 (kjoin a b).v, .int .u64 (kjoin a b).m] 48) := ⟨_, rfl⟩
        rw [← hV1]
        obtain ⟨b1, hb1⟩ : ∃ b1, b1 = w'.heap.size := ⟨_, rfl⟩
        rw [← hb1]
        have xV1 : Ext W V1 := by rw [hV1]; exact (x3.trans hx').alloc _
        have xq : Ext W3 V1 := by rw [hV1]; exact hx'.alloc _
        have cn : ∀ w2, Ext V1 w2 → C2 w2 b1 (.int .u64 (kjoin a b).v) (.int .u64 (kjoin a b).m) := fun w2 h => by rw [hb1]; exact (new1 (hV1 ▸ h)).1
        have MV1 := hide (fun w2 (h : Ext V1 w2) => And.intro (cn w2 h) (MK.out w2 (xq.trans h)))
        clear hV1 hb1 xq cn c0_0 c0_1 c0_f c1_0 c1_1 c1_f sz hx'
        try clear sz0
        try clear sz1
        have hx' : Ext V1 V1 := Ext.refl _
        (try clear c0_0 c0_1 c0_f c1_0 c1_1 c1_f c2_0 c2_1 c2_f sz); obtain ⟨⟨c0_0, c0_1, c0_f⟩, ⟨c1_0, c1_1, c1_f⟩, ⟨c2_0, c2_1, c2_f⟩, sz⟩ := MV1.out _ hx'; (try (have sz1 := Nat.lt_of_succ_lt sz)); (try (have sz0 := Nat.lt_of_succ_lt sz1))
        go_upto_region 10 with (first
          | (go_at_call 27; (with_reducible refine (kc_may _ true J0.out V1 _ (by assumption)).mono ?_); rintro e w' ⟨rfl, hx'⟩; (try clear c0_0 c0_1 c0_f c1_0 c1_1 c1_f c2_0 c2_1 c2_f sz); obtain ⟨⟨c0_0, c0_1, c0_f⟩, ⟨c1_0, c1_1, c1_f⟩, ⟨c2_0, c2_1, c2_f⟩, sz⟩ := MV1.out _ hx'; (try (have sz1 := Nat.lt_of_succ_lt sz)); (try (have sz0 := Nat.lt_of_succ_lt sz1)))
          | (go_at_call 33; (with_reducible refine (kc_has _ _ true J3.out V1 _ (by assumption)).mono ?_); rintro e w' ⟨rfl, hx'⟩; (try clear c0_0 c0_1 c0_f c1_0 c1_1 c1_f c2_0 c2_1 c2_f sz); obtain ⟨⟨c0_0, c0_1, c0_f⟩, ⟨c1_0, c1_1, c1_f⟩, ⟨c2_0, c2_1, c2_f⟩, sz⟩ := MV1.out _ hx'; (try (have sz1 := Nat.lt_of_succ_lt sz)); (try (have sz0 := Nat.lt_of_succ_lt sz1)))
          | (go_at_call 33; (with_reducible refine (kc_has _ _ true J4.out V1 _ (by assumption)).mono ?_); rintro e w' ⟨rfl, hx'⟩; (try clear c0_0 c0_1 c0_f c1_0 c1_1 c1_f c2_0 c2_1 c2_f sz); obtain ⟨⟨c0_0, c0_1, c0_f⟩, ⟨c1_0, c1_1, c1_f⟩, ⟨c2_0, c2_1, c2_f⟩, sz⟩ := MV1.out _ hx'; (try (have sz1 := Nat.lt_of_succ_lt sz)); (try (have sz0 := Nat.lt_of_succ_lt sz1)))
          | (go_at_call 31; (with_reducible refine (kc_in _ _ true J1.out V1 _ (by assumption)).mono ?_); rintro e w' ⟨rfl, hx'⟩; (try clear c0_0 c0_1 c0_f c1_0 c1_1 c1_f c2_0 c2_1 c2_f sz); obtain ⟨⟨c0_0, c0_1, c0_f⟩, ⟨c1_0, c1_1, c1_f⟩, ⟨c2_0, c2_1, c2_f⟩, sz⟩ := MV1.out _ hx'; (try (have sz1 := Nat.lt_of_succ_lt sz)); (try (have sz0 := Nat.lt_of_succ_lt sz1)))
          | (go_at_call 31; (with_reducible refine (kc_in _ _ true J2.out V1 _ (by assumption)).mono ?_); rintro e w' ⟨rfl, hx'⟩; (try clear c0_0 c0_1 c0_f c1_0 c1_1 c1_f c2_0 c2_1 c2_f sz); obtain ⟨⟨c0_0, c0_1, c0_f⟩, ⟨c1_0, c1_1, c1_f⟩, ⟨c2_0, c2_1, c2_f⟩, sz⟩ := MV1.out _ hx'; (try (have sz1 := Nat.lt_of_succ_lt sz)); (try (have sz0 := Nat.lt_of_succ_lt sz1)))
          | (go_at_call 34; (with_reducible refine (kc_meet a b M HM.out V1 _ (by assumption)).mono ?_); rintro e w' ⟨rfl, hx'⟩; (try clear c0_0 c0_1 c0_f c1_0 c1_1 c1_f c2_0 c2_1 c2_f sz); obtain ⟨⟨c0_0, c0_1, c0_f⟩, ⟨c1_0, c1_1, c1_f⟩, ⟨c2_0, c2_1, c2_f⟩, sz⟩ := MV1.out _ hx'; (try (have sz1 := Nat.lt_of_succ_lt sz)); (try (have sz0 := Nat.lt_of_succ_lt sz1)))
          | fail)
        obtain ⟨V2, hV2⟩ : ∃ V2, V2 = w'.alloc (.cells #[.int .u64 (kmeet a b).v, .int .u64 (kmeet a b).m] 48) := ⟨_, rfl⟩
        rw [← hV2]
        obtain ⟨b2, hb2⟩ : ∃ b2, b2 = w'.heap.size := ⟨_, rfl⟩
        rw [← hb2]
        have xV2 : Ext W V2 := by rw [hV2]; exact (xV1.trans hx').alloc _
        have xq : Ext V1 V2 := by rw [hV2]; exact hx'.alloc _
        have cn : ∀ w2, Ext V2 w2 → C2 w2 b2 (.int .u64 (kmeet a b).v) (.int .u64 (kmeet a b).m) := fun w2 h => by rw [hb2]; exact (new1 (hV2 ▸ h)).1
        have MV2 := hide (fun w2 (h : Ext V2 w2) => And.intro (cn w2 h) (MV1.out w2 (xq.trans h)))
        clear hV2 hb2 xq cn c0_0 c0_1 c0_f c1_0 c1_1 c1_f c2_0 c2_1 c2_f sz hx'
        try clear sz0
        try clear sz1
        have hx' : Ext V2 V2 := Ext.refl _
        (try clear c0_0 c0_1 c0_f c1_0 c1_1 c1_f c2_0 c2_1 c2_f c3_0 c3_1 c3_f sz); obtain ⟨⟨c0_0, c0_1, c0_f⟩, ⟨c1_0, c1_1, c1_f⟩, ⟨c2_0, c2_1, c2_f⟩, ⟨c3_0, c3_1, c3_f⟩, sz⟩ := MV2.out _ hx'; (try (have sz1 := Nat.lt_of_succ_lt sz)); (try (have sz0 := Nat.lt_of_succ_lt sz1))
        go_cut [20] (fun s20 wx => s20 = .bool (A && B) ∧ Hid (Ext V2 wx))
        case first =>
          as_aux_lemma =>
            cases A
            all_goals
              go_wp2_with (first
                | (go_at_call 33; (with_reducible refine (kc_has a z _ HA.out V2 _ (by assumption)).mono ?_); rintro e w' ⟨rfl, hx'⟩; (try clear c0_0 c0_1 c0_f c1_0 c1_1 c1_f c2_0 c2_1 c2_f c3_0 c3_1 c3_f sz); obtain ⟨⟨c0_0, c0_1, c0_f⟩, ⟨c1_0, c1_1, c1_f⟩, ⟨c2_0, c2_1, c2_f⟩, ⟨c3_0, c3_1, c3_f⟩, sz⟩ := MV2.out _ hx'; (try (have sz1 := Nat.lt_of_succ_lt sz)); (try (have sz0 := Nat.lt_of_succ_lt sz1)))
                | (go_at_call 33; (with_reducible refine (kc_has b z _ HB.out V2 _ (by assumption)).mono ?_); rintro e w' ⟨rfl, hx'⟩; (try clear c0_0 c0_1 c0_f c1_0 c1_1 c1_f c2_0 c2_1 c2_f c3_0 c3_1 c3_f sz); obtain ⟨⟨c0_0, c0_1, c0_f⟩, ⟨c1_0, c1_1, c1_f⟩, ⟨c2_0, c2_1, c2_f⟩, ⟨c3_0, c3_1, c3_f⟩, sz⟩ := MV2.out _ hx'; (try (have sz1 := Nat.lt_of_succ_lt sz)); (try (have sz0 := Nat.lt_of_succ_lt sz1)))
                | fail)
              go_meet
              exact ⟨by simp, hide (by assumption)⟩
        case rest =>
          as_aux_lemma =>
            obtain ⟨rfl, hx'⟩ := hcut
            replace hx' := hx'.out
            (try clear c0_0 c0_1 c0_f c1_0 c1_1 c1_f c2_0 c2_1 c2_f c3_0 c3_1 c3_f sz); obtain ⟨⟨c0_0, c0_1, c0_f⟩, ⟨c1_0, c1_1, c1_f⟩, ⟨c2_0, c2_1, c2_f⟩, ⟨c3_0, c3_1, c3_f⟩, sz⟩ := MV2.out _ hx'; (try (have sz1 := Nat.lt_of_succ_lt sz)); (try (have sz0 := Nat.lt_of_succ_lt sz1))
            go_upto_region 11 with fail
            go_cut [157] (fun s157 wx => s157 = .bool false ∧ Hid (Ext V2 wx))
            case first =>
              as_aux_lemma =>
                have rl : (M = true ∧ H = (A && B) ∧ (I = false ∨ (A = true → B = true))) ∨ (M = false ∧ ((A = false) ∨ (A = true ∧ B = false ∧ I = false))) := by
                  have := R.out
                  revert this
                  cases A <;> cases B <;> cases M <;> cases H <;> cases I <;> simp
                rcases rl with ⟨rfl, rfl, rl⟩ | ⟨rfl, rfl | ⟨rfl, rfl, rfl⟩⟩
                rotate_left 1
                cases I
                rotate_left 3
                cases I <;> cases A <;> cases B
                all_goals try (exfalso; simp at rl; done)
                all_goals
                  go_wp2_with (first
                    | (go_at_call 33; (with_reducible refine (kc_has _ _ _ HA.out V2 _ (by assumption)).mono ?_); rintro e w' ⟨rfl, hx'⟩; (try clear c0_0 c0_1 c0_f c1_0 c1_1 c1_f c2_0 c2_1 c2_f c3_0 c3_1 c3_f sz); obtain ⟨⟨c0_0, c0_1, c0_f⟩, ⟨c1_0, c1_1, c1_f⟩, ⟨c2_0, c2_1, c2_f⟩, ⟨c3_0, c3_1, c3_f⟩, sz⟩ := MV2.out _ hx'; (try (have sz1 := Nat.lt_of_succ_lt sz)); (try (have sz0 := Nat.lt_of_succ_lt sz1)))
                    | (go_at_call 33; (with_reducible refine (kc_has _ _ _ HB.out V2 _ (by assumption)).mono ?_); rintro e w' ⟨rfl, hx'⟩; (try clear c0_0 c0_1 c0_f c1_0 c1_1 c1_f c2_0 c2_1 c2_f c3_0 c3_1 c3_f sz); obtain ⟨⟨c0_0, c0_1, c0_f⟩, ⟨c1_0, c1_1, c1_f⟩, ⟨c2_0, c2_1, c2_f⟩, ⟨c3_0, c3_1, c3_f⟩, sz⟩ := MV2.out _ hx'; (try (have sz1 := Nat.lt_of_succ_lt sz)); (try (have sz0 := Nat.lt_of_succ_lt sz1)))
                    | (go_at_call 33; (with_reducible refine (kc_has _ _ _ HH.out V2 _ (by assumption)).mono ?_); rintro e w' ⟨rfl, hx'⟩; (try clear c0_0 c0_1 c0_f c1_0 c1_1 c1_f c2_0 c2_1 c2_f c3_0 c3_1 c3_f sz); obtain ⟨⟨c0_0, c0_1, c0_f⟩, ⟨c1_0, c1_1, c1_f⟩, ⟨c2_0, c2_1, c2_f⟩, ⟨c3_0, c3_1, c3_f⟩, sz⟩ := MV2.out _ hx'; (try (have sz1 := Nat.lt_of_succ_lt sz)); (try (have sz0 := Nat.lt_of_succ_lt sz1)))
                    | (go_at_call 31; (with_reducible refine (kc_in _ _ _ HI.out V2 _ (by assumption)).mono ?_); rintro e w' ⟨rfl, hx'⟩; (try clear c0_0 c0_1 c0_f c1_0 c1_1 c1_f c2_0 c2_1 c2_f c3_0 c3_1 c3_f sz); obtain ⟨⟨c0_0, c0_1, c0_f⟩, ⟨c1_0, c1_1, c1_f⟩, ⟨c2_0, c2_1, c2_f⟩, ⟨c3_0, c3_1, c3_f⟩, sz⟩ := MV2.out _ hx'; (try (have sz1 := Nat.lt_of_succ_lt sz)); (try (have sz0 := Nat.lt_of_succ_lt sz1)))
                    | fail)
                  go_meet
                  exact ⟨by first | rfl | simp, hide (by assumption)⟩
            case rest =>
              as_aux_lemma =>
                obtain ⟨rfl, hx'⟩ := hcut
                replace hx' := hx'.out
                (try clear c0_0 c0_1 c0_f c1_0 c1_1 c1_f c2_0 c2_1 c2_f c3_0 c3_1 c3_f sz); obtain ⟨⟨c0_0, c0_1, c0_f⟩, ⟨c1_0, c1_1, c1_f⟩, ⟨c2_0, c2_1, c2_f⟩, ⟨c3_0, c3_1, c3_f⟩, sz⟩ := MV2.out _ hx'; (try (have sz1 := Nat.lt_of_succ_lt sz)); (try (have sz0 := Nat.lt_of_succ_lt sz1))
                go_upto_region 13 with fail
                go_cut [21, 22] (fun s21 s22 wx => s21 = .int .u64 lo ∧ s22 = .int .u64 hi ∧ Hid (Ext V2 wx))
                case first =>
                  as_aux_lemma =>
                    have lh := LH.out
                    rcases lh with ⟨l1, l2, l3⟩ | ⟨l1, l2, l3⟩
                    all_goals go_wp2_with fail
                    all_goals first
                      | (exfalso; omega)
                      | (go_meet; refine ⟨?_, ?_, hide (by assumption)⟩ <;> (simp; omega))
                case rest =>
                  as_aux_lemma =>
                    obtain ⟨rfl, rfl, hx'⟩ := hcut
                    replace hx' := hx'.out
                    (try clear c0_0 c0_1 c0_f c1_0 c1_1 c1_f c2_0 c2_1 c2_f c3_0 c3_1 c3_f sz); obtain ⟨⟨c0_0, c0_1, c0_f⟩, ⟨c1_0, c1_1, c1_f⟩, ⟨c2_0, c2_1, c2_f⟩, ⟨c3_0, c3_1, c3_f⟩, sz⟩ := MV2.out _ hx'; (try (have sz1 := Nat.lt_of_succ_lt sz)); (try (have sz0 := Nat.lt_of_succ_lt sz1))
                    go_upto_region 15 with (first
                      | (go_at_call 35; (with_reducible refine (kc_common lo hi ⟨LB.out.1, LB.out.2.1, LB.out.2.2.1, LB.out.2.2.2.1⟩ V2 _ (by assumption)).mono ?_); rintro e w' ⟨rfl, hx'⟩; (try clear c0_0 c0_1 c0_f c1_0 c1_1 c1_f c2_0 c2_1 c2_f c3_0 c3_1 c3_f sz); obtain ⟨⟨c0_0, c0_1, c0_f⟩, ⟨c1_0, c1_1, c1_f⟩, ⟨c2_0, c2_1, c2_f⟩, ⟨c3_0, c3_1, c3_f⟩, sz⟩ := MV2.out _ hx'; (try (have sz1 := Nat.lt_of_succ_lt sz)); (try (have sz0 := Nat.lt_of_succ_lt sz1)))
                      | fail)
                    obtain ⟨V3, hV3⟩ : ∃ V3, V3 = w'.alloc (.cells #[.int .u64 (kcommon lo hi).v, .int .u64 (kcommon lo hi).m] 48) := ⟨_, rfl⟩
                    rw [← hV3]
                    obtain ⟨b3, hb3⟩ : ∃ b3, b3 = w'.heap.size := ⟨_, rfl⟩
                    rw [← hb3]
                    have xV3 : Ext W V3 := by rw [hV3]; exact (xV2.trans hx').alloc _
                    have xq : Ext V2 V3 := by rw [hV3]; exact hx'.alloc _
                    have cn : ∀ w2, Ext V3 w2 → C2 w2 b3 (.int .u64 (kcommon lo hi).v) (.int .u64 (kcommon lo hi).m) := fun w2 h => by rw [hb3]; exact (new1 (hV3 ▸ h)).1
                    have MV3 := hide (fun w2 (h : Ext V3 w2) => And.intro (cn w2 h) (MV2.out w2 (xq.trans h)))
                    clear hV3 hb3 xq cn c0_0 c0_1 c0_f c1_0 c1_1 c1_f c2_0 c2_1 c2_f c3_0 c3_1 c3_f sz hx'
                    try clear sz0
                    try clear sz1
                    have hx' : Ext V3 V3 := Ext.refl _
                    (try clear c0_0 c0_1 c0_f c1_0 c1_1 c1_f c2_0 c2_1 c2_f c3_0 c3_1 c3_f c4_0 c4_1 c4_f sz); obtain ⟨⟨c0_0, c0_1, c0_f⟩, ⟨c1_0, c1_1, c1_f⟩, ⟨c2_0, c2_1, c2_f⟩, ⟨c3_0, c3_1, c3_f⟩, ⟨c4_0, c4_1, c4_f⟩, sz⟩ := MV3.out _ hx'; (try (have sz1 := Nat.lt_of_succ_lt sz)); (try (have sz0 := Nat.lt_of_succ_lt sz1))
                    go_cut [192] (fun s192 wx => s192 = .bool false ∧ Hid (Ext V3 wx))
                    case first =>
                      as_aux_lemma =>
                        have rl : G = false ∨ (G = true ∧ L = false) ∨ (G = true ∧ L = true ∧ C = true) := by
                          have := R2.out
                          revert this
                          cases G <;> cases L <;> cases C <;> simp
                        have g1 := HG.out
                        have g2 := HL.out
                        rcases rl with rfl | ⟨rfl, rfl⟩ | ⟨rfl, rfl, rfl⟩
                        all_goals
                          go_wp2_with (first
                            | (go_at_call 33; (with_reducible refine (kc_has _ _ true KC1.out V3 _ (by assumption)).mono ?_); rintro e w' ⟨rfl, hx'⟩; (try clear c0_0 c0_1 c0_f c1_0 c1_1 c1_f c2_0 c2_1 c2_f c3_0 c3_1 c3_f c4_0 c4_1 c4_f sz); obtain ⟨⟨c0_0, c0_1, c0_f⟩, ⟨c1_0, c1_1, c1_f⟩, ⟨c2_0, c2_1, c2_f⟩, ⟨c3_0, c3_1, c3_f⟩, ⟨c4_0, c4_1, c4_f⟩, sz⟩ := MV3.out _ hx'; (try (have sz1 := Nat.lt_of_succ_lt sz)); (try (have sz0 := Nat.lt_of_succ_lt sz1)))
                            | (go_at_call 33; (with_reducible refine (kc_has _ _ true KC2.out V3 _ (by assumption)).mono ?_); rintro e w' ⟨rfl, hx'⟩; (try clear c0_0 c0_1 c0_f c1_0 c1_1 c1_f c2_0 c2_1 c2_f c3_0 c3_1 c3_f c4_0 c4_1 c4_f sz); obtain ⟨⟨c0_0, c0_1, c0_f⟩, ⟨c1_0, c1_1, c1_f⟩, ⟨c2_0, c2_1, c2_f⟩, ⟨c3_0, c3_1, c3_f⟩, ⟨c4_0, c4_1, c4_f⟩, sz⟩ := MV3.out _ hx'; (try (have sz1 := Nat.lt_of_succ_lt sz)); (try (have sz0 := Nat.lt_of_succ_lt sz1)))
                            | (go_at_call 33; (with_reducible refine (kc_has _ _ _ HC.out V3 _ (by assumption)).mono ?_); rintro e w' ⟨rfl, hx'⟩; (try clear c0_0 c0_1 c0_f c1_0 c1_1 c1_f c2_0 c2_1 c2_f c3_0 c3_1 c3_f c4_0 c4_1 c4_f sz); obtain ⟨⟨c0_0, c0_1, c0_f⟩, ⟨c1_0, c1_1, c1_f⟩, ⟨c2_0, c2_1, c2_f⟩, ⟨c3_0, c3_1, c3_f⟩, ⟨c4_0, c4_1, c4_f⟩, sz⟩ := MV3.out _ hx'; (try (have sz1 := Nat.lt_of_succ_lt sz)); (try (have sz0 := Nat.lt_of_succ_lt sz1)))
                            | fail)
                          go_meet
                          exact ⟨by first | rfl | simp, hide (by assumption)⟩
                    case rest =>
                      as_aux_lemma =>
                        obtain ⟨rfl, hx'⟩ := hcut
                        replace hx' := hx'.out
                        (try clear c0_0 c0_1 c0_f c1_0 c1_1 c1_f c2_0 c2_1 c2_f c3_0 c3_1 c3_f c4_0 c4_1 c4_f sz); obtain ⟨⟨c0_0, c0_1, c0_f⟩, ⟨c1_0, c1_1, c1_f⟩, ⟨c2_0, c2_1, c2_f⟩, ⟨c3_0, c3_1, c3_f⟩, ⟨c4_0, c4_1, c4_f⟩, sz⟩ := MV3.out _ hx'; (try (have sz1 := Nat.lt_of_succ_lt sz)); (try (have sz0 := Nat.lt_of_succ_lt sz1))
                        go_wp2_with (first
                          | (go_at_call 36; (with_reducible refine (HD.out _).mono ?_); rintro e w9 ⟨rfl, rfl⟩)
                          | (go_at_call 24; (with_reducible refine (kdo_any op w1 a b V3 _ (by assumption) ha hb).mono ?_); rintro e w' ⟨rfl, hx'⟩; (try clear c0_0 c0_1 c0_f c1_0 c1_1 c1_f c2_0 c2_1 c2_f c3_0 c3_1 c3_f c4_0 c4_1 c4_f sz); obtain ⟨⟨c0_0, c0_1, c0_f⟩, ⟨c1_0, c1_1, c1_f⟩, ⟨c2_0, c2_1, c2_f⟩, ⟨c3_0, c3_1, c3_f⟩, ⟨c4_0, c4_1, c4_f⟩, sz⟩ := MV3.out _ hx'; (try (have sz1 := Nat.lt_of_succ_lt sz)); (try (have sz0 := Nat.lt_of_succ_lt sz1)))
                          | fail)
                        obtain ⟨V4, hV4⟩ : ∃ V4, V4 = w'.alloc (.cells #[.int .u64 (kdo op w1 a b).v, .int .u64 (kdo op w1 a b).m] 48) := ⟨_, rfl⟩
                        rw [← hV4]
                        obtain ⟨b4, hb4⟩ : ∃ b4, b4 = w'.heap.size := ⟨_, rfl⟩
                        rw [← hb4]
                        have xV4 : Ext W V4 := by rw [hV4]; exact (xV3.trans hx').alloc _
                        have xq : Ext V3 V4 := by rw [hV4]; exact hx'.alloc _
                        have cn : ∀ w2, Ext V4 w2 → C2 w2 b4 (.int .u64 (kdo op w1 a b).v) (.int .u64 (kdo op w1 a b).m) := fun w2 h => by rw [hb4]; exact (new1 (hV4 ▸ h)).1
                        have MV4 := hide (fun w2 (h : Ext V4 w2) => And.intro (cn w2 h) (MV3.out w2 (xq.trans h)))
                        clear hV4 hb4 xq cn c0_0 c0_1 c0_f c1_0 c1_1 c1_f c2_0 c2_1 c2_f c3_0 c3_1 c3_f c4_0 c4_1 c4_f sz hx'
                        try clear sz0
                        try clear sz1
                        have hx' : Ext V4 V4 := Ext.refl _
                        (try clear c0_0 c0_1 c0_f c1_0 c1_1 c1_f c2_0 c2_1 c2_f c3_0 c3_1 c3_f c4_0 c4_1 c4_f c5_0 c5_1 c5_f sz); obtain ⟨⟨c0_0, c0_1, c0_f⟩, ⟨c1_0, c1_1, c1_f⟩, ⟨c2_0, c2_1, c2_f⟩, ⟨c3_0, c3_1, c3_f⟩, ⟨c4_0, c4_1, c4_f⟩, ⟨c5_0, c5_1, c5_f⟩, sz⟩ := MV4.out _ hx'; (try (have sz1 := Nat.lt_of_succ_lt sz)); (try (have sz0 := Nat.lt_of_succ_lt sz1))
                        have hr := HR.out
                        rcases hr with ⟨rfl, hr⟩ | rfl
                        · have HR1 := hide hr
                          clear hr
                          go_wp2_with (first
                            | (go_at_call 27; (with_reducible refine (kc_may _ true D0.out V4 _ (by assumption)).mono ?_); rintro e w' ⟨rfl, hx'⟩; (try clear c0_0 c0_1 c0_f c1_0 c1_1 c1_f c2_0 c2_1 c2_f c3_0 c3_1 c3_f c4_0 c4_1 c4_f c5_0 c5_1 c5_f sz); obtain ⟨⟨c0_0, c0_1, c0_f⟩, ⟨c1_0, c1_1, c1_f⟩, ⟨c2_0, c2_1, c2_f⟩, ⟨c3_0, c3_1, c3_f⟩, ⟨c4_0, c4_1, c4_f⟩, ⟨c5_0, c5_1, c5_f⟩, sz⟩ := MV4.out _ hx'; (try (have sz1 := Nat.lt_of_succ_lt sz)); (try (have sz0 := Nat.lt_of_succ_lt sz1)))
                            | (go_at_call 33; (with_reducible refine (kc_has _ _ true HR1.out V4 _ (by assumption)).mono ?_); rintro e w' ⟨rfl, hx'⟩; (try clear c0_0 c0_1 c0_f c1_0 c1_1 c1_f c2_0 c2_1 c2_f c3_0 c3_1 c3_f c4_0 c4_1 c4_f c5_0 c5_1 c5_f sz); obtain ⟨⟨c0_0, c0_1, c0_f⟩, ⟨c1_0, c1_1, c1_f⟩, ⟨c2_0, c2_1, c2_f⟩, ⟨c3_0, c3_1, c3_f⟩, ⟨c4_0, c4_1, c4_f⟩, ⟨c5_0, c5_1, c5_f⟩, sz⟩ := MV4.out _ hx'; (try (have sz1 := Nat.lt_of_succ_lt sz)); (try (have sz0 := Nat.lt_of_succ_lt sz1)))
                            | (go_at_call 26; (with_reducible refine (kwakes_any V4 _ (by assumption)).mono ?_); rintro e w' ⟨rfl, hx'⟩; (try clear c0_0 c0_1 c0_f c1_0 c1_1 c1_f c2_0 c2_1 c2_f c3_0 c3_1 c3_f c4_0 c4_1 c4_f c5_0 c5_1 c5_f sz); obtain ⟨⟨c0_0, c0_1, c0_f⟩, ⟨c1_0, c1_1, c1_f⟩, ⟨c2_0, c2_1, c2_f⟩, ⟨c3_0, c3_1, c3_f⟩, ⟨c4_0, c4_1, c4_f⟩, ⟨c5_0, c5_1, c5_f⟩, sz⟩ := MV4.out _ hx'; (try (have sz1 := Nat.lt_of_succ_lt sz)); (try (have sz0 := Nat.lt_of_succ_lt sz1)))
                            | fail)
                          go_ret
                          exact ⟨rfl, xV4.trans (by assumption)⟩
                        · go_wp2_with (first
                            | (go_at_call 27; (with_reducible refine (kc_may _ true D0.out V4 _ (by assumption)).mono ?_); rintro e w' ⟨rfl, hx'⟩; (try clear c0_0 c0_1 c0_f c1_0 c1_1 c1_f c2_0 c2_1 c2_f c3_0 c3_1 c3_f c4_0 c4_1 c4_f c5_0 c5_1 c5_f sz); obtain ⟨⟨c0_0, c0_1, c0_f⟩, ⟨c1_0, c1_1, c1_f⟩, ⟨c2_0, c2_1, c2_f⟩, ⟨c3_0, c3_1, c3_f⟩, ⟨c4_0, c4_1, c4_f⟩, ⟨c5_0, c5_1, c5_f⟩, sz⟩ := MV4.out _ hx'; (try (have sz1 := Nat.lt_of_succ_lt sz)); (try (have sz0 := Nat.lt_of_succ_lt sz1)))
                            | (go_at_call 26; (with_reducible refine (kwakes_any V4 _ (by assumption)).mono ?_); rintro e w' ⟨rfl, hx'⟩; (try clear c0_0 c0_1 c0_f c1_0 c1_1 c1_f c2_0 c2_1 c2_f c3_0 c3_1 c3_f c4_0 c4_1 c4_f c5_0 c5_1 c5_f sz); obtain ⟨⟨c0_0, c0_1, c0_f⟩, ⟨c1_0, c1_1, c1_f⟩, ⟨c2_0, c2_1, c2_f⟩, ⟨c3_0, c3_1, c3_f⟩, ⟨c4_0, c4_1, c4_f⟩, ⟨c5_0, c5_1, c5_f⟩, sz⟩ := MV4.out _ hx'; (try (have sz1 := Nat.lt_of_succ_lt sz)); (try (have sz0 := Nat.lt_of_succ_lt sz1)))
                            | fail)
                          go_ret
                          exact ⟨rfl, xV4.trans (by assumption)⟩
theorem law_KnownSound {H : Type} {enc : TypeId × Value → H} {W : World} {r : Reach} {b0 : Nat} (a0 : Int) (w0 : (Lit.int .i8 a0).wf = true)
    (a1 : Int) (w1 : (Lit.int .i8 a1).wf = true)
    (v2 : Value) (k2 : Value.okWide Try.prog W r b0 48 v2) (d2 : DataW H) (p2 : List MemPlace) (h2 : DataW.Trod enc Try.prog W 0 (fun _ => true) true 48 v2 d2 p2) (_ : ∀ x ∈ p2, x.block < W.heap.size)
    (v3 : Value) (k3 : Value.okWide Try.prog W r b0 48 v3) (d3 : DataW H) (p3 : List MemPlace) (h3 : DataW.Trod enc Try.prog W 0 (fun _ => true) true 48 v3 d3 p3) (_ : ∀ x ∈ p3, x.block < W.heap.size)
    (a4 : Int) (w4 : (Lit.int .u64 a4).wf = true)
    (a5 : Int) (w5 : (Lit.int .u64 a5).wf = true)
    (a6 : Int) (w6 : (Lit.int .u64 a6).wf = true) :
    Calls Try.prog 9 #[.int .i8 a0, .int .i8 a1, v2, v3, .int .u64 a4, .int .u64 a5, .int .u64 a6] W fun e W' => e = .returned (.bool true) ∧ Below W.heap.size W W' := by
  obtain ⟨q2, rfl, g2⟩ := Kn.of_arg k2 h2
  obtain ⟨q3, rfl, g3⟩ := Kn.of_arg k3 h3
  exact ks_walk a0 a1 q2 q3 a4 a5 a6 W g2 g3 (wf_u64 w4).1 (wf_u64 w4).2 (wf_u64 w5).1 (wf_u64 w5).2
end Go.Proofs.Ytkoiaadhbgccaaa
