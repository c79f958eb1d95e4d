/- The walk of the law KnownLow. -/
import Derived.Test.YtkoiaadhbgccaaaKnK
import Derived.Test.YtkoiaadhbgccaaaKnL4
import Derived.Test.YtkoiaadhbgccaaaKnL5
import Derived.Deep.RegionHeld3
import Derived.Deep.RegionWith
import Derived.Deep.DeepCutAuto
set_option linter.unusedVariables false
set_option linter.unusedSimpArgs false
namespace Go.Proofs.Ytkoiaadhbgccaaa
open Go.RowKit Go.ChangeShapes Go.WideShapes

theorem kcut_cut {a : Kn} (ha : a.wf) (h : kmay a = true) {w : Int} (hw : w = 32 ∨ w = 64) : kcut (kcut a w) w = kcut a w := by
  rw [kcut_v (kmay_cut ha hw) w, kcut_v h w]
  simp [zcut_zcut]
theorem kdo_low {op : Int} {a b : Kn} (ha : a.wf) (hb : b.wf) (h1 : kmay a = true) (h2 : kmay b = true) : kdo op 32 (kcut a 32) (kcut b 32) = kdo op 32 a b := by
  unfold kdo kgood
  rw [kcut_cut ha h1 (.inl rfl), kcut_cut hb h2 (.inl rfl), kmay_cut ha (.inl rfl), kmay_cut hb (.inl rfl), h1, h2]
theorem kdo_cut {op : Int} {a b : Kn} (ha : a.wf) (hb : b.wf) (h1 : kmay a = true) (h2 : kmay b = true) (h3 : 0 ≤ op) (h4 : op ≤ 12) : kcut (kdo op 32 a b) 32 = kdo op 32 a b := by
  have hg := kgood_mk (w := 32) h1 h2 h3 h4 (.inl rfl)
  unfold kdo
  rw [if_pos hg]
  split
  · rw [kcut_v (kmay_zero rfl)]
    show Kn.mk (zcut (zdo op 32 _ _) 32) (zcut 0 32) = Kn.mk _ _
    rw [zcut_zdo]
    simp [zcut]
  · exact kcut_cut (wf_kop (wf_kcut ha 32) (wf_kcut hb 32) op 32) (kmay_kop (kmay_cut hb (.inl rfl))) (.inl rfl)
theorem tb_cut16 {x : Int} (h0 : 0 ≤ x) {i : Nat} (hi : i < 64) : tb (x % 65536) i = (decide (i < 16) && tb x i) := by
  obtain ⟨n, rfl⟩ := Int.eq_ofNat_of_zero_le h0
  unfold tb
  rw [show ((n : Int) % 65536) = ((n % 2 ^ 16 : Nat) : Int) from by omega, BitVec.ofInt_natCast, BitVec.ofInt_natCast, BitVec.getLsbD_ofNat, BitVec.getLsbD_ofNat, Nat.testBit_mod_two_pow]
  cases decide (i < 64) <;> cases decide (i < 16) <;> simp
theorem cut16 {a : Kn} (ha : a.wf) (h : kmay a = true) : kcut (kcut a 16) 32 = kcut a 16 := by
  have hm : kmay (kcut a 16) = true := by
    rw [kcut_v h, kmay_iff]
    intro i hi
    have := (kmay_iff a).1 h i hi
    show (tb (zcut a.v 16) i && tb (zcut a.m 16) i) = false
    have e : ∀ x, zcut x 16 = x % 65536 := fun x => by simp [zcut]
    rw [e, e, tb_cut16 ha.1.1 hi, tb_cut16 ha.2.1 hi]
    revert this
    cases tb a.v i <;> cases tb a.m i <;> cases decide (i < 16) <;> simp
  rw [kcut_v hm, kcut_v h]
  simp [zcut]
  omega
theorem kdo_out {op : Int} {a b : Kn} (h : op < 0 ∨ 12 < op) (w : Int) : kdo op w a b = kall := by
  have : kgood op w a b = false := by
    unfold kgood
    rcases h with h | h
    · rw [show decide (0 ≤ op) = false from by simp; omega]; simp
    · rw [show decide (op ≤ 12) = false from by simp; omega]; simp
  unfold kdo
  rw [this]
  simp
theorem kc_all (k : Kn) (h : kall = k) (W w : World) (hx : Ext W w) : Calls Try.prog 29 #[] w fun e w' => e = .returned (.agg #[.int .u64 k.v, .int .u64 k.m]) ∧ Ext W w' := by
  rw [← h]; exact kall_any W w hx
theorem new1d {w w' : World} {x y : Value} {t : TypeId} (h : Ext (w.drew.alloc (.cells #[x, y] t)) w') : C2 w' w.heap.size x y := (new1 (w := w.drew) h).1
set_option maxRecDepth 100000 in
set_option maxHeartbeats 16000000 in
theorem kw_low (op : Int) (a b : Kn) (W : World) (ha : a.wf) (hb : b.wf) :
    Calls Try.prog 7 #[.int .i8 op, .agg #[.int .u64 a.v, .int .u64 a.m], .agg #[.int .u64 b.v, .int .u64 b.m]] W fun e W' => e = .returned (.bool true) ∧ Ext W W' := by
  obtain ⟨W3, hW3⟩ : ∃ W3, W3 = ((W.alloc (.cells #[.int .u64 a.v, .int .u64 a.m] 48)).alloc (.cells #[.int .u64 b.v, .int .u64 b.m] 48)) := ⟨_, rfl⟩
  have x3 : Ext W W3 := by rw [hW3]; exact (((Ext.refl W).alloc _).alloc _)
  have MK := hide (fun w' (h : Ext W3 w') => new2 (hW3 ▸ h))
  have hx' : Ext W3 W3 := Ext.refl _
  have hc : kmay a = false ∨ (kmay a = true ∧ kmay b = false) ∨ (kmay a = true ∧ kmay b = true) := by
    cases kmay a <;> cases kmay b <;> simp
  rcases hc with m1 | ⟨m1, m2⟩ | ⟨m1, m2⟩
  · have M1 := hide (m1)
    clear m1
    go_enter Try.func7, Try.ntmps7
    go_wp2_with fail
    rw [← hW3]
    clear hW3
    (try clear c0_0 c0_1 c0_f c1_0 c1_1 c1_f sz); obtain ⟨⟨c0_0, c0_1, c0_f⟩, ⟨c1_0, c1_1, c1_f⟩, sz⟩ := MK.out _ hx'; (try (have sz1 := Nat.lt_of_succ_lt sz)); (try (have sz0 := Nat.lt_of_succ_lt sz1))
    go_wp2_with (first
      | (go_at_call 27; (with_reducible refine (kc_may a false M1.out W3 _ (by assumption)).mono ?_); rintro e w' ⟨rfl, hx'⟩; (try clear c0_0 c0_1 c0_f c1_0 c1_1 c1_f sz); obtain ⟨⟨c0_0, c0_1, c0_f⟩, ⟨c1_0, c1_1, c1_f⟩, sz⟩ := MK.out _ hx'; (try (have sz1 := Nat.lt_of_succ_lt sz)); (try (have sz0 := Nat.lt_of_succ_lt sz1)))
      | (go_at_call 26; (with_reducible refine (kwakes_any W3 _ (by assumption)).mono ?_); rintro e w' ⟨rfl, hx'⟩; (try clear c0_0 c0_1 c0_f c1_0 c1_1 c1_f sz); obtain ⟨⟨c0_0, c0_1, c0_f⟩, ⟨c1_0, c1_1, c1_f⟩, sz⟩ := MK.out _ hx'; (try (have sz1 := Nat.lt_of_succ_lt sz)); (try (have sz0 := Nat.lt_of_succ_lt sz1)))
      | fail)
    go_ret
    exact ⟨rfl, x3.trans (by assumption)⟩
  · have M1 := hide (m1)
    have M2 := hide (m2)
    clear m1 m2
    go_enter Try.func7, Try.ntmps7
    go_wp2_with fail
    rw [← hW3]
    clear hW3
    (try clear c0_0 c0_1 c0_f c1_0 c1_1 c1_f sz); obtain ⟨⟨c0_0, c0_1, c0_f⟩, ⟨c1_0, c1_1, c1_f⟩, sz⟩ := MK.out _ hx'; (try (have sz1 := Nat.lt_of_succ_lt sz)); (try (have sz0 := Nat.lt_of_succ_lt sz1))
    go_wp2_with (first
      | (go_at_call 27; (with_reducible refine (kc_may a true M1.out W3 _ (by assumption)).mono ?_); rintro e w' ⟨rfl, hx'⟩; (try clear c0_0 c0_1 c0_f c1_0 c1_1 c1_f sz); obtain ⟨⟨c0_0, c0_1, c0_f⟩, ⟨c1_0, c1_1, c1_f⟩, sz⟩ := MK.out _ hx'; (try (have sz1 := Nat.lt_of_succ_lt sz)); (try (have sz0 := Nat.lt_of_succ_lt sz1)))
      | (go_at_call 27; (with_reducible refine (kc_may b false M2.out W3 _ (by assumption)).mono ?_); rintro e w' ⟨rfl, hx'⟩; (try clear c0_0 c0_1 c0_f c1_0 c1_1 c1_f sz); obtain ⟨⟨c0_0, c0_1, c0_f⟩, ⟨c1_0, c1_1, c1_f⟩, sz⟩ := MK.out _ hx'; (try (have sz1 := Nat.lt_of_succ_lt sz)); (try (have sz0 := Nat.lt_of_succ_lt sz1)))
      | (go_at_call 26; (with_reducible refine (kwakes_any W3 _ (by assumption)).mono ?_); rintro e w' ⟨rfl, hx'⟩; (try clear c0_0 c0_1 c0_f c1_0 c1_1 c1_f sz); obtain ⟨⟨c0_0, c0_1, c0_f⟩, ⟨c1_0, c1_1, c1_f⟩, sz⟩ := MK.out _ hx'; (try (have sz1 := Nat.lt_of_succ_lt sz)); (try (have sz0 := Nat.lt_of_succ_lt sz1)))
      | fail)
    go_ret
    exact ⟨rfl, x3.trans (by assumption)⟩
  · obtain ⟨X, hX⟩ : ∃ X, kdo op 32 a b = X := ⟨_, rfl⟩
    have hY : kdo op 32 (kcut a 32) (kcut b 32) = X := by rw [kdo_low ha hb m1 m2, hX]
    have hr : (X = kall ∧ (op < 0 ∨ 12 < op)) ∨ (kcut X 32 = X ∧ 0 ≤ op ∧ op ≤ 12) := by
      by_cases h : 0 ≤ op ∧ op ≤ 12
      · exact .inr ⟨by rw [← hX]; exact kdo_cut ha hb m1 m2 h.1 h.2, h⟩
      · have h' : op < 0 ∨ 12 < op := by omega
        exact .inl ⟨by rw [← hX]; exact kdo_out h' 32, h'⟩
    have HXW := hide (show X.wf from by rw [← hX]; exact wf_kdo ha hb op 32)
    have HX := hide (hX)
    have HY := hide (hY)
    have HR := hide (hr)
    have M1 := hide (m1)
    have M2 := hide (m2)
    have CC := hide (cut16 ha m1)
    have HA := hide (ha)
    have HB := hide (hb)
    clear hX hY hr m1 m2
    go_enter Try.func7, Try.ntmps7
    go_wp2_with fail
    rw [← hW3]
    clear hW3
    (try clear c0_0 c0_1 c0_f c1_0 c1_1 c1_f sz); obtain ⟨⟨c0_0, c0_1, c0_f⟩, ⟨c1_0, c1_1, c1_f⟩, sz⟩ := MK.out _ hx'; (try (have sz1 := Nat.lt_of_succ_lt sz)); (try (have sz0 := Nat.lt_of_succ_lt sz1))
    go_wp2_with (first
      | (go_at_call 27; (with_reducible refine (kc_may a true M1.out W3 _ (by assumption)).mono ?_); rintro e w' ⟨rfl, hx'⟩; (try clear c0_0 c0_1 c0_f c1_0 c1_1 c1_f sz); obtain ⟨⟨c0_0, c0_1, c0_f⟩, ⟨c1_0, c1_1, c1_f⟩, sz⟩ := MK.out _ hx'; (try (have sz1 := Nat.lt_of_succ_lt sz)); (try (have sz0 := Nat.lt_of_succ_lt sz1)))
      | (go_at_call 27; (with_reducible refine (kc_may b true M2.out W3 _ (by assumption)).mono ?_); rintro e w' ⟨rfl, hx'⟩; (try clear c0_0 c0_1 c0_f c1_0 c1_1 c1_f sz); obtain ⟨⟨c0_0, c0_1, c0_f⟩, ⟨c1_0, c1_1, c1_f⟩, sz⟩ := MK.out _ hx'; (try (have sz1 := Nat.lt_of_succ_lt sz)); (try (have sz0 := Nat.lt_of_succ_lt sz1)))
      | (go_at_call 24; (with_reducible refine (kc_do op 32 a b X ha hb HX.out W3 _ (by assumption)).mono ?_); rintro e w' ⟨rfl, hx'⟩; (try clear c0_0 c0_1 c0_f c1_0 c1_1 c1_f sz); obtain ⟨⟨c0_0, c0_1, c0_f⟩, ⟨c1_0, c1_1, c1_f⟩, sz⟩ := MK.out _ hx'; (try (have sz1 := Nat.lt_of_succ_lt sz)); (try (have sz0 := Nat.lt_of_succ_lt sz1)))
      | fail)
    obtain ⟨V1, hV1⟩ : ∃ V1, V1 = w'.alloc (.cells #[.int .u64 X.v, .int .u64 X.m] 48) := ⟨_, rfl⟩
    rw [← hV1]
    obtain ⟨b1, hb1⟩ : ∃ b1, b1 = w'.heap.size := ⟨_, rfl⟩
    rw [← hb1]
    have xV1 : Ext W V1 := by rw [hV1]; exact (x3.trans hx').alloc _
    have xq : Ext W3 V1 := by rw [hV1]; exact hx'.alloc _
    have cn : ∀ w2, Ext V1 w2 → C2 w2 b1 (.int .u64 X.v) (.int .u64 X.m) := fun w2 h => by rw [hb1]; exact (new1 (hV1 ▸ h)).1
    have MV1 := hide (fun w2 (h : Ext V1 w2) => And.intro (cn w2 h) (MK.out w2 (xq.trans h)))
    clear hV1 hb1 xq cn c0_0 c0_1 c0_f c1_0 c1_1 c1_f sz hx'
    try clear sz0
    try clear sz1
    have hx' : Ext V1 V1 := Ext.refl _
    (try clear c0_0 c0_1 c0_f c1_0 c1_1 c1_f c2_0 c2_1 c2_f sz); obtain ⟨⟨c0_0, c0_1, c0_f⟩, ⟨c1_0, c1_1, c1_f⟩, ⟨c2_0, c2_1, c2_f⟩, sz⟩ := MV1.out _ hx'; (try (have sz1 := Nat.lt_of_succ_lt sz)); (try (have sz0 := Nat.lt_of_succ_lt sz1))
    go_upto_region 4 with fail
    go_cut [8] (fun s8 wx => ∃ b8, s8 = .pointer (some ⟨b8, 0, none⟩) ∧ Hid (Ext V1 wx ∧ C2 wx b8 (.int .u64 X.v) (.int .u64 X.m)))
    case first =>
      as_aux_lemma =>
        have SK := hide (fun w' (h : Ext V1 w') => (⟨h, (MV1.out _ h).1.1, (MV1.out _ h).1.2.1, (MV1.out _ h).2.1.1, (MV1.out _ h).2.1.2.1, (MV1.out _ h).2.2.1.1, (MV1.out _ h).2.2.1.2.1⟩ : Ext V1 w' ∧ w'.cell? ⟨b1, 0, none⟩ = some (.int .u64 X.v) ∧ w'.cell? ⟨b1, 1, none⟩ = some (.int .u64 X.m) ∧ w'.cell? ⟨W.heap.size, 0, none⟩ = some (.int .u64 a.v) ∧ w'.cell? ⟨W.heap.size, 1, none⟩ = some (.int .u64 a.m) ∧ w'.cell? ⟨W.heap.size + 1, 0, none⟩ = some (.int .u64 b.v) ∧ w'.cell? ⟨W.heap.size + 1, 1, none⟩ = some (.int .u64 b.m)))
        have hxd := hx'.drew
        clear c0_0 c0_1 c0_f c1_0 c1_1 c1_f c2_0 c2_1 c2_f sz
        try clear sz0
        try clear sz1
        go_region_held3 (fun w' => Ext V1 w' ∧ w'.cell? ⟨b1, 0, none⟩ = some (.int .u64 X.v) ∧ w'.cell? ⟨b1, 1, none⟩ = some (.int .u64 X.m) ∧ w'.cell? ⟨W.heap.size, 0, none⟩ = some (.int .u64 a.v) ∧ w'.cell? ⟨W.heap.size, 1, none⟩ = some (.int .u64 a.m) ∧ w'.cell? ⟨W.heap.size + 1, 0, none⟩ = some (.int .u64 b.v) ∧ w'.cell? ⟨W.heap.size + 1, 1, none⟩ = some (.int .u64 b.m))
          ((refine SK.out _ ?_; repeat (with_reducible first | assumption | exact hxd3 | exact hxd1 | exact hxd2 | apply Ext.alloc | apply Ext.drew | (refine Ext.store1 ?_ ?_ _; rotate_left 1; ((try have := hxd1.size); (try have := hxd2.size); (try have := hxd3.size); first | (simp; done) | (simp; omega) | omega)))))
          (first
          | (go_at_call 28; have hq := And.left ‹Ext V1 _ ∧ _›; (with_reducible refine (kc_cut a 32 _ ha rfl _ _ (Ext.refl _)).mono ?_); rintro e wa ⟨rfl, hy⟩; have hxd1 : Ext V1 wa := hq.trans hy; clear hq; (first | (have p := new1d (w := V1) hy; have P := hide p; obtain ⟨p0, p1, pf⟩ := p) | (have p := (new1 hy).1; have P := hide p; obtain ⟨p0, p1, pf⟩ := p) | (have p := P.out.ext (by with_reducible first | exact hy | exact ((Ext.refl _).alloc _).trans hy); clear p0 p1 pf P; have P := hide p; obtain ⟨p0, p1, pf⟩ := p) | skip); clear hy)
          | (go_at_call 28; have hq := And.left ‹Ext V1 _ ∧ _›; (with_reducible refine (kc_cut b 32 _ hb rfl _ _ (Ext.refl _)).mono ?_); rintro e wb ⟨rfl, hy⟩; have hxd2 : Ext V1 wb := hq.trans hy; clear hq; (first | (have p := new1d (w := V1) hy; have P := hide p; obtain ⟨p0, p1, pf⟩ := p) | (have p := (new1 hy).1; have P := hide p; obtain ⟨p0, p1, pf⟩ := p) | (have p := P.out.ext (by with_reducible first | exact hy | exact ((Ext.refl _).alloc _).trans hy); clear p0 p1 pf P; have P := hide p; obtain ⟨p0, p1, pf⟩ := p) | skip); clear hy)
          | (go_at_call 24; have hq := And.left ‹Ext V1 _ ∧ _›; (with_reducible refine (kc_do op 32 (kcut a 32) (kcut b 32) X (wf_kcut ha 32) (wf_kcut hb 32) HY.out _ _ (Ext.refl _)).mono ?_); rintro e wd ⟨rfl, hy⟩; have hxd3 : Ext V1 wd := hq.trans hy; clear hq; (first | (have p := new1d (w := V1) hy; have P := hide p; obtain ⟨p0, p1, pf⟩ := p) | (have p := (new1 hy).1; have P := hide p; obtain ⟨p0, p1, pf⟩ := p) | (have p := P.out.ext (by with_reducible first | exact hy | exact ((Ext.refl _).alloc _).trans hy); clear p0 p1 pf P; have P := hide p; obtain ⟨p0, p1, pf⟩ := p) | skip); clear hy))
        all_goals
          go_wp2_with fail
          go_meet
          first
            | exact ⟨_, rfl, hide ⟨hxd3.alloc _, (new1 (Ext.refl _)).1⟩⟩
            | exact ⟨_, rfl, hide ⟨Ext.store2 hxd3 (by (try have := hxd1.size); (try have := hxd2.size); first | exact Nat.le_refl _ | omega) _ _, P.out.put _ _⟩⟩
    case rest =>
      obtain ⟨b8, rfl, HC⟩ := hcut
      have MC := hide (fun w2 (h : Ext wc w2) => (⟨HC.out.2.ext h, MV1.out w2 (HC.out.1.trans h)⟩ : C2 w2 b8 (.int .u64 X.v) (.int .u64 X.m) ∧ _))
      have xC : Ext W wc := xV1.trans HC.out.1
      clear c0_0 c0_1 c0_f c1_0 c1_1 c1_f c2_0 c2_1 c2_f sz hx'
      try clear sz0
      try clear sz1
      have hx' : Ext wc wc := Ext.refl _
      (try clear c0_0 c0_1 c0_f c1_0 c1_1 c1_f c2_0 c2_1 c2_f c3_0 c3_1 c3_f sz); obtain ⟨⟨c0_0, c0_1, c0_f⟩, ⟨c1_0, c1_1, c1_f⟩, ⟨c2_0, c2_1, c2_f⟩, ⟨c3_0, c3_1, c3_f⟩, sz⟩ := MC.out _ hx'; (try (have sz1 := Nat.lt_of_succ_lt sz)); (try (have sz0 := Nat.lt_of_succ_lt sz1))
      rcases HR.out with ⟨hk, ho⟩ | ⟨hc, ho0, ho12⟩
      · have HK := hide hk.symm
        clear hk
        rcases ho with ho | ho
        all_goals
          as_aux_lemma =>
            go_wp2_with fail
            have SK := hide (fun w' (h : Ext wc w') => (⟨h, (MC.out _ h).1.1, (MC.out _ h).1.2.1, (MC.out _ h).2.1.1, (MC.out _ h).2.1.2.1, (MC.out _ h).2.2.1.1, (MC.out _ h).2.2.1.2.1, (MC.out _ h).2.2.2.1.1, (MC.out _ h).2.2.2.1.2.1⟩ : Ext wc w' ∧ w'.cell? ⟨b8, 0, none⟩ = some (.int .u64 X.v) ∧ w'.cell? ⟨b8, 1, none⟩ = some (.int .u64 X.m) ∧ w'.cell? ⟨b1, 0, none⟩ = some (.int .u64 X.v) ∧ w'.cell? ⟨b1, 1, none⟩ = some (.int .u64 X.m) ∧ w'.cell? ⟨W.heap.size, 0, none⟩ = some (.int .u64 a.v) ∧ w'.cell? ⟨W.heap.size, 1, none⟩ = some (.int .u64 a.m) ∧ w'.cell? ⟨W.heap.size + 1, 0, none⟩ = some (.int .u64 b.v) ∧ w'.cell? ⟨W.heap.size + 1, 1, none⟩ = some (.int .u64 b.m)))
            clear c0_0 c0_1 c0_f c1_0 c1_1 c1_f c2_0 c2_1 c2_f c3_0 c3_1 c3_f sz
            try clear sz0
            try clear sz1
            go_region_held3 (fun w' => Ext wc w' ∧ w'.cell? ⟨b8, 0, none⟩ = some (.int .u64 X.v) ∧ w'.cell? ⟨b8, 1, none⟩ = some (.int .u64 X.m) ∧ w'.cell? ⟨b1, 0, none⟩ = some (.int .u64 X.v) ∧ w'.cell? ⟨b1, 1, none⟩ = some (.int .u64 X.m) ∧ w'.cell? ⟨W.heap.size, 0, none⟩ = some (.int .u64 a.v) ∧ w'.cell? ⟨W.heap.size, 1, none⟩ = some (.int .u64 a.m) ∧ w'.cell? ⟨W.heap.size + 1, 0, none⟩ = some (.int .u64 b.v) ∧ w'.cell? ⟨W.heap.size + 1, 1, none⟩ = some (.int .u64 b.m))
              (first | exact SK.out _ hx' | exact SK.out _ hx'.drew)
              (first
              | (go_at_call 29; have hq := And.left ‹Ext wc _ ∧ _›; (with_reducible refine (kc_all X HK.out wc _ hq).mono ?_); rintro e w' ⟨rfl, hx'⟩)
              | (go_at_call 26; have hq := And.left ‹Ext wc _ ∧ _›; (with_reducible refine (kwakes_any wc _ hq).mono ?_); rintro e w' ⟨rfl, hx'⟩))
            clear SK
            all_goals
              go_wp2_with fail
              go_ret
              exact ⟨rfl, xC.trans (by assumption)⟩
      · have HK := hide hc
        clear hc
        as_aux_lemma =>
          go_wp2_with fail
          have SK := hide (fun w' (h : Ext wc w') => (⟨h, (MC.out _ h).1.1, (MC.out _ h).1.2.1, (MC.out _ h).2.1.1, (MC.out _ h).2.1.2.1, (MC.out _ h).2.2.1.1, (MC.out _ h).2.2.1.2.1, (MC.out _ h).2.2.2.1.1, (MC.out _ h).2.2.2.1.2.1⟩ : Ext wc w' ∧ w'.cell? ⟨b8, 0, none⟩ = some (.int .u64 X.v) ∧ w'.cell? ⟨b8, 1, none⟩ = some (.int .u64 X.m) ∧ w'.cell? ⟨b1, 0, none⟩ = some (.int .u64 X.v) ∧ w'.cell? ⟨b1, 1, none⟩ = some (.int .u64 X.m) ∧ w'.cell? ⟨W.heap.size, 0, none⟩ = some (.int .u64 a.v) ∧ w'.cell? ⟨W.heap.size, 1, none⟩ = some (.int .u64 a.m) ∧ w'.cell? ⟨W.heap.size + 1, 0, none⟩ = some (.int .u64 b.v) ∧ w'.cell? ⟨W.heap.size + 1, 1, none⟩ = some (.int .u64 b.m)))
          clear c0_0 c0_1 c0_f c1_0 c1_1 c1_f c2_0 c2_1 c2_f c3_0 c3_1 c3_f sz
          try clear sz0
          try clear sz1
          go_region_held3 (fun w' => Ext wc w' ∧ w'.cell? ⟨b8, 0, none⟩ = some (.int .u64 X.v) ∧ w'.cell? ⟨b8, 1, none⟩ = some (.int .u64 X.m) ∧ w'.cell? ⟨b1, 0, none⟩ = some (.int .u64 X.v) ∧ w'.cell? ⟨b1, 1, none⟩ = some (.int .u64 X.m) ∧ w'.cell? ⟨W.heap.size, 0, none⟩ = some (.int .u64 a.v) ∧ w'.cell? ⟨W.heap.size, 1, none⟩ = some (.int .u64 a.m) ∧ w'.cell? ⟨W.heap.size + 1, 0, none⟩ = some (.int .u64 b.v) ∧ w'.cell? ⟨W.heap.size + 1, 1, none⟩ = some (.int .u64 b.m))
            (first | exact SK.out _ hx' | exact SK.out _ hx'.drew)
            (first
            | (go_at_call 28; have hq := And.left ‹Ext wc _ ∧ _›; (with_reducible refine (kc_cut X 32 X HXW.out HK.out wc _ hq).mono ?_); rintro e w' ⟨rfl, hx'⟩)
            | (go_at_call 28; have hq := And.left ‹Ext wc _ ∧ _›; (with_reducible refine (kc_cut a 16 _ HA.out rfl wc _ hq).mono ?_); rintro e w' ⟨rfl, hx'⟩)
            | (go_at_call 28; have hq := And.left ‹Ext wc _ ∧ _›; (with_reducible refine (kc_cut (kcut a 16) 32 (kcut a 16) (wf_kcut HA.out 16) CC.out wc _ hq).mono ?_); rintro e w' ⟨rfl, hx'⟩)
            | (go_at_call 26; have hq := And.left ‹Ext wc _ ∧ _›; (with_reducible refine (kwakes_any wc _ hq).mono ?_); rintro e w' ⟨rfl, hx'⟩))
          clear SK
          all_goals
            go_wp2_with fail
            go_ret
            exact ⟨rfl, xC.trans (by assumption)⟩
theorem law_KnownLow {H : Type} {enc : TypeId × Value → H} {W : World} {r : Reach} {b0 : Nat} (a0 : Int) (w0 : (Lit.int .i8 a0).wf = true)
    (v1 : Value) (k1 : Value.okWide Try.prog W r b0 48 v1) (d1 : DataW H) (p1 : List MemPlace) (h1 : DataW.Trod enc Try.prog W 0 (fun _ => true) true 48 v1 d1 p1) (_ : ∀ x ∈ p1, x.block < W.heap.size)
    (v2 : Value) (k2 : Value.okWide Try.prog W r b0 48 v2) (d2 : DataW H) (p2 : List MemPlace) (h2 : DataW.Trod enc Try.prog W 0 (fun _ => true) true 48 v2 d2 p2) (_ : ∀ x ∈ p2, x.block < W.heap.size) :
    Calls Try.prog 7 #[.int .i8 a0, v1, v2] W fun e W' => e = .returned (.bool true) ∧ Below W.heap.size W W' := by
  obtain ⟨q1, rfl, g1⟩ := Kn.of_arg k1 h1
  obtain ⟨q2, rfl, g2⟩ := Kn.of_arg k2 h2
  exact kw_low a0 q1 q2 W g1 g2
end Go.Proofs.Ytkoiaadhbgccaaa
