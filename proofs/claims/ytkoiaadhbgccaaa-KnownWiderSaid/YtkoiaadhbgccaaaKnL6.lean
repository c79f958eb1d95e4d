/- Where less is known of both, Do tells no more. No walk is in here. -/
import Derived.Test.YtkoiaadhbgccaaaKnL5
set_option linter.unusedVariables false
set_option linter.unusedSimpArgs false
namespace Go.Proofs.Ytkoiaadhbgccaaa
open Go.RowKit

theorem tb_wrap (x : Int) (i : Nat) : tb (IntKind.u64.wrap x) i = tb x i := by unfold tb; rw [bv_wrap]
theorem kmask_at {v m : Int} {i : Nat} (hi : i < 64) (h : tb m i = false) : tb (kmask v m).m i = false ∧ tb (kmask v m).v i = tb v i := by
  refine ⟨h, ?_⟩
  show tb (bits .andNot .u64 v m) i = _
  rw [tb_andNot _ _ hi, h]; simp
theorem add_mono {a b x y : Kn} (ha : a.wf) (hb : b.wf) (hx : x.wf) (hy : y.wf) (h1 : kin a x = true) (h2 : kin b y = true) : kin (kadd a b) (kadd x y) = true := by
  obtain ⟨ma, mx, h3⟩ := (kin_iff2 hx).1 h1
  obtain ⟨mb, my, h4⟩ := (kin_iff2 hy).1 h2
  have key : ∀ i, i < 64 → tb (kadd x y).m i = false → tb (kadd a b).m i = false ∧ tb (kadd a b).v i = tb (IntKind.u64.wrap (x.v + y.v)) i := by
    intro i hi hm
    obtain ⟨g1, g2, g3⟩ := kadd_at hx hy (kin_v ha hx h1) (kin_v hb hy h2) hi hm
    obtain ⟨_, _, g4⟩ := kadd_at hx hy (kin_vm ha hx h1) (kin_vm hb hy h2) hi hm
    have e : tb (IntKind.u64.wrap (a.m + b.m) + IntKind.u64.wrap (a.v + b.v)) i = tb (bits .or .u64 a.v a.m + bits .or .u64 b.v b.m) i := by
      unfold tb
      rw [BitVec.ofInt_add, bv_wrap, bv_wrap, BitVec.ofInt_add, BitVec.ofInt_add, BitVec.ofInt_add, ← bv_or_eq ma, ← bv_or_eq mb]
      congr 1; ac_rfl
    have hmask : tb (bits .or .u64 (bits .or .u64 (bits .xor .u64 (IntKind.u64.wrap (a.v + b.v)) (IntKind.u64.wrap (IntKind.u64.wrap (a.m + b.m) + IntKind.u64.wrap (a.v + b.v)))) a.m) b.m) i = false := by
      rw [tb_or, tb_or, tb_xor, tb_wrap, tb_wrap, e, g3, g4, (h3 i hi g1).1, (h4 i hi g2).1]; simp
    obtain ⟨q1, q2⟩ := kmask_at (v := IntKind.u64.wrap (a.v + b.v)) hi hmask
    exact ⟨q1, by rw [tb_wrap, ← g3, ← tb_wrap (a.v + b.v)]; exact q2⟩
  exact kin_mask (or_bd _ _) (kmay_mask _ _) key
theorem sub_mono {a b x y : Kn} (ha : a.wf) (hb : b.wf) (hx : x.wf) (hy : y.wf) (h1 : kin a x = true) (h2 : kin b y = true) : kin (ksub a b) (ksub x y) = true := by
  obtain ⟨ma, mx, h3⟩ := (kin_iff2 hx).1 h1
  obtain ⟨mb, my, h4⟩ := (kin_iff2 hy).1 h2
  have key : ∀ i, i < 64 → tb (ksub x y).m i = false → tb (ksub a b).m i = false ∧ tb (ksub a b).v i = tb (IntKind.u64.wrap (x.v - y.v)) i := by
    intro i hi hm
    obtain ⟨g1, g2, g3⟩ := ksub_at hx hy (kin_v ha hx h1) (kin_v hb hy h2) hi hm
    obtain ⟨_, _, g4⟩ := ksub_at hx hy (kin_vm ha hx h1) (kin_v hb hy h2) hi hm
    obtain ⟨_, _, g5⟩ := ksub_at hx hy (kin_v ha hx h1) (kin_vm hb hy h2) hi hm
    have e1 : tb (IntKind.u64.wrap (a.v - b.v) + a.m) i = tb (bits .or .u64 a.v a.m - b.v) i := by
      unfold tb
      rw [BitVec.ofInt_add, bv_wrap, bv_sub, bv_sub, ← bv_or_eq ma]
      congr 1
      simp only [BitVec.sub_eq_add_neg]; ac_rfl
    have e2 : tb (IntKind.u64.wrap (a.v - b.v) - b.m) i = tb (a.v - bits .or .u64 b.v b.m) i := by
      unfold tb
      rw [bv_sub, bv_wrap, bv_sub, bv_sub, ← bv_or_eq mb]
      congr 1
      simp only [BitVec.sub_eq_add_neg, BitVec.neg_add]; ac_rfl
    have hmask : tb (bits .or .u64 (bits .or .u64 (bits .xor .u64 (IntKind.u64.wrap (IntKind.u64.wrap (a.v - b.v) + a.m)) (IntKind.u64.wrap (IntKind.u64.wrap (a.v - b.v) - b.m))) a.m) b.m) i = false := by
      rw [tb_or, tb_or, tb_xor, tb_wrap, tb_wrap, e1, e2, g4, g5, (h3 i hi g1).1, (h4 i hi g2).1]; simp
    obtain ⟨q1, q2⟩ := kmask_at (v := IntKind.u64.wrap (a.v - b.v)) hi hmask
    exact ⟨q1, by rw [tb_wrap, ← g3, ← tb_wrap (a.v - b.v)]; exact q2⟩
  exact kin_mask (or_bd _ _) (kmay_mask _ _) key
theorem bool_and : ∀ av am bv bm xv xm yv ym : Bool, (av && am) = false → (bv && bm) = false → (xv && xm) = false → (yv && ym) = false → (xm = false → am = false ∧ av = xv) → (ym = false → bm = false ∧ bv = yv) →
    ((xv || xm) && (yv || ym) && !(xv && yv)) = false → ((av || am) && (bv || bm) && !(av && bv)) = false ∧ (av && bv) = (xv && yv) := by decide
theorem bool_or : ∀ av am bv bm xv xm yv ym : Bool, (av && am) = false → (bv && bm) = false → (xv && xm) = false → (yv && ym) = false → (xm = false → am = false ∧ av = xv) → (ym = false → bm = false ∧ bv = yv) →
    ((xm || ym) && !(xv || yv)) = false → ((am || bm) && !(av || bv)) = false ∧ (av || bv) = (xv || yv) := by decide
theorem kop_shift {op w : Int} (hop : op = 6 ∨ op = 7 ∨ op = 12) (a b : Kn) : kop op w a b = if (bits .and .u64 b.m (w - 1) == 0) = true then kshift op w a b else kall := by
  unfold kop
  rcases hop with rfl | rfl | rfl <;> simp only [show ¬ (6 : Int) = 0 from by decide, show ¬ (6 : Int) = 1 from by decide, show ¬ (6 : Int) = 4 from by decide, show ¬ (6 : Int) = 5 from by decide, show ¬ (7 : Int) = 0 from by decide, show ¬ (7 : Int) = 1 from by decide, show ¬ (7 : Int) = 4 from by decide, show ¬ (7 : Int) = 5 from by decide, show ¬ (12 : Int) = 0 from by decide, show ¬ (12 : Int) = 1 from by decide, show ¬ (12 : Int) = 4 from by decide, show ¬ (12 : Int) = 5 from by decide, if_false, true_or, or_true, if_true]
theorem shift_mono {op w : Int} (hop : op = 6 ∨ op = 7 ∨ op = 12) (hw : w = 32 ∨ w = 64) {a b x y : Kn} (ha : a.wf) (hb : b.wf) (hx : x.wf) (hy : y.wf) (h1 : kin a x = true) (h2 : kin b y = true) : kin (kop op w a b) (kop op w x y) = true := by
  obtain ⟨ma, mx, h3⟩ := (kin_iff2 hx).1 h1
  obtain ⟨mb, my, h4⟩ := (kin_iff2 hy).1 h2
  rw [kop_shift hop x y]
  split
  · rename_i hk
    have hky := (tb_eq (and_bd _ _) zero_bd).1 hk
    have hkb : (bits .and .u64 b.m (w - 1) == 0) = true := by
      rw [tb_eq (and_bd _ _) zero_bd]
      intro i hi
      have g := hky i hi
      rw [tb_and, tb_zero] at g ⊢
      cases hq : tb (w - 1) i
      · simp
      · rw [hq] at g
        rw [(h4 i hi (by simpa using g)).1]; simp
    rw [kop_shift hop a b, if_pos hkb]
    have hs : bits .and .u64 b.v (w - 1) = bits .and .u64 y.v (w - 1) := by
      apply tb_ext (and_bd _ _) (and_bd _ _)
      intro i hi
      have g := hky i hi
      rw [tb_and, tb_zero] at g
      rw [tb_and, tb_and]
      cases hq : tb (w - 1) i
      · simp
      · rw [hq] at g
        rw [(h4 i hi (by simpa using g)).2]
    unfold kshift
    rw [hs]
    have hy0 := and_bd y.v (w - 1)
    have hmod0 : bits .and .u64 y.v (w - 1) = y.v % w := low_mask hw hy.1.1 hy.1.2
    obtain ⟨s, hsq, hsw⟩ := pos_mod hw y.v
    have hmod : zcut (bits .and .u64 y.v (w - 1)) w % w = s := by rw [cut_low hw, hmod0, hsq]; exact Int.emod_eq_of_lt (by omega) hsw
    refine kin_mask (zdo_bd _ _ _ _ hx.2.1 hx.2.2 hy0.1 hy0.2) (kmay_mask _ _) (fun i hi hm => ?_)
    rw [sel_do hop hw hx.2.1 hx.2.2 hsw hmod hi] at hm
    have hm2 : tb (zdo op w a.m (bits .and .u64 y.v (w - 1))) i = false ∧ tb (zdo op w a.v (bits .and .u64 y.v (w - 1))) i = tb (zdo op w x.v (bits .and .u64 y.v (w - 1))) i := by
      rw [sel_do hop hw ha.2.1 ha.2.2 hsw hmod hi, sel_do hop hw ha.1.1 ha.1.2 hsw hmod hi, sel_do hop hw hx.1.1 hx.1.2 hsw hmod hi]
      cases hsrc : src op w s i with
      | none => exact ⟨rfl, rfl⟩
      | some j =>
        rw [hsrc] at hm
        exact h3 j (src_lt hw hsrc) hm
    obtain ⟨q1, q2⟩ := kmask_at (v := zdo op w a.v (bits .and .u64 y.v (w - 1))) hi hm2.1
    exact ⟨q1, q2.trans hm2.2⟩
  · exact kin_all (kmay_kop mb)
theorem kop_mono {op w : Int} (h0 : 0 ≤ op) (h12 : op ≤ 12) (hw : w = 32 ∨ w = 64) {a b x y : Kn} (ha : a.wf) (hb : b.wf) (hx : x.wf) (hy : y.wf) (h1 : kin a x = true) (h2 : kin b y = true) : kin (kop op w a b) (kop op w x y) = true := by
  obtain ⟨ma, mx, h3⟩ := (kin_iff2 hx).1 h1
  obtain ⟨mb, my, h4⟩ := (kin_iff2 hy).1 h2
  have top : ∀ o : Int, kop o w x y = kall → kin (kop o w a b) (kop o w x y) = true := fun o h => by rw [h]; exact kin_all (kmay_kop mb)
  rcases op_cases h0 h12 with rfl | rfl | rfl | rfl | rfl | rfl | rfl | rfl | rfl | rfl | rfl | rfl | rfl
  · rw [show kop 0 w a b = kadd a b from by simp [kop], show kop 0 w x y = kadd x y from by simp [kop]]
    exact add_mono ha hb hx hy h1 h2
  · rw [show kop 1 w a b = ksub a b from by simp [kop], show kop 1 w x y = ksub x y from by simp [kop]]
    exact sub_mono ha hb hx hy h1 h2
  · exact top 2 (by simp [kop])
  · exact top 3 (by simp [kop])
  · rw [show kop 4 w a b = kor a b from by simp [kop], show kop 4 w x y = kor x y from by simp [kop], kin_iff2 ⟨or_bd _ _, andNot_bd _ _⟩]
    refine ⟨by rw [show kor a b = kop 4 w a b from by simp [kop]]; exact kmay_kop mb, by rw [show kor x y = kop 4 w x y from by simp [kop]]; exact kmay_kop my, fun i hi => ?_⟩
    show tb (bits .andNot .u64 (bits .or .u64 x.m y.m) (bits .or .u64 x.v y.v)) i = false → tb (bits .andNot .u64 (bits .or .u64 a.m b.m) (bits .or .u64 a.v b.v)) i = false ∧ tb (bits .or .u64 a.v b.v) i = tb (bits .or .u64 x.v y.v) i
    rw [tb_andNot _ _ hi, tb_andNot _ _ hi, tb_or, tb_or, tb_or, tb_or]
    exact bool_or _ _ _ _ _ _ _ _ ((kmay_iff a).1 ma i hi) ((kmay_iff b).1 mb i hi) ((kmay_iff x).1 mx i hi) ((kmay_iff y).1 my i hi) (h3 i hi) (h4 i hi)
  · rw [show kop 5 w a b = kand a b from by simp [kop], show kop 5 w x y = kand x y from by simp [kop], kin_iff2 ⟨and_bd _ _, andNot_bd _ _⟩]
    refine ⟨by rw [show kand a b = kop 5 w a b from by simp [kop]]; exact kmay_kop mb, by rw [show kand x y = kop 5 w x y from by simp [kop]]; exact kmay_kop my, fun i hi => ?_⟩
    show tb (bits .andNot .u64 (bits .and .u64 (bits .or .u64 x.v x.m) (bits .or .u64 y.v y.m)) (bits .and .u64 x.v y.v)) i = false → tb (bits .andNot .u64 (bits .and .u64 (bits .or .u64 a.v a.m) (bits .or .u64 b.v b.m)) (bits .and .u64 a.v b.v)) i = false ∧ tb (bits .and .u64 a.v b.v) i = tb (bits .and .u64 x.v y.v) i
    rw [tb_andNot _ _ hi, tb_andNot _ _ hi, tb_and, tb_and, tb_and, tb_and, tb_or, tb_or, tb_or, tb_or]
    exact bool_and _ _ _ _ _ _ _ _ ((kmay_iff a).1 ma i hi) ((kmay_iff b).1 mb i hi) ((kmay_iff x).1 mx i hi) ((kmay_iff y).1 my i hi) (h3 i hi) (h4 i hi)
  · exact shift_mono (.inl rfl) hw ha hb hx hy h1 h2
  · exact shift_mono (.inr (.inl rfl)) hw ha hb hx hy h1 h2
  · rw [show kop 8 w a b = ksub (kone 0) a from by simp [kop], show kop 8 w x y = ksub (kone 0) x from by simp [kop]]
    exact sub_mono (wf_kone zero_bd) ha (wf_kone zero_bd) hx (kin_refl (wf_kone zero_bd) (kmay_one 0)) h1
  · exact top 9 (by simp [kop])
  · rw [show kop 10 w a b = kxor a b from by simp [kop], show kop 10 w x y = kxor x y from by simp [kop]]
    refine kin_mask (or_bd _ _) (kmay_mask _ _) (fun i hi hm => ?_)
    rw [tb_or, Bool.or_eq_false_iff] at hm
    obtain ⟨g1, g2⟩ := h3 i hi hm.1
    obtain ⟨g3, g4⟩ := h4 i hi hm.2
    have hmask : tb (bits .or .u64 a.m b.m) i = false := by rw [tb_or, g1, g3]; rfl
    obtain ⟨q1, q2⟩ := kmask_at (v := bits .xor .u64 a.v b.v) hi hmask
    exact ⟨q1, q2.trans (by rw [tb_xor, tb_xor, g2, g4])⟩
  · rw [show kop 11 w a b = b from by simp [kop], show kop 11 w x y = y from by simp [kop]]
    exact h2
  · exact shift_mono (.inr (.inr rfl)) hw ha hb hx hy h1 h2
theorem kn_ext {a b : Kn} (h1 : a.v = b.v) (h2 : a.m = b.m) : a = b := by cases a; cases b; simp_all
/-- Do is monotone. -/
theorem kdo_mono {op w : Int} {a b x y : Kn} (ha : a.wf) (hb : b.wf) (hx : x.wf) (hy : y.wf) (h1 : kin a x = true) (h2 : kin b y = true) : kin (kdo op w a b) (kdo op w x y) = true := by
  obtain ⟨ma, mx, h3⟩ := (kin_iff2 hx).1 h1
  obtain ⟨mb, my, h4⟩ := (kin_iff2 hy).1 h2
  by_cases hg : kgood op w x y = true
  · obtain ⟨_, _, g0, g12, hw⟩ := kgood_of hg
    have hga : kgood op w a b = true := kgood_mk ma mb g0 g12 hw
    have wa := wf_kcut ha w
    have wb := wf_kcut hb w
    have wx := wf_kcut hx w
    have wy := wf_kcut hy w
    have k1 := kin_cut ha hx h1 hw
    have k2 := kin_cut hb hy h2 hw
    obtain ⟨ca, cx, c3⟩ := (kin_iff2 wx).1 k1
    obtain ⟨cb, cy, c4⟩ := (kin_iff2 wy).1 k2
    have hxy := or_zero wx.2.1 wx.2.2 wy.2.1 wy.2.2
    have hab := or_zero wa.2.1 wa.2.2 wb.2.1 wb.2.2
    rw [kdo, if_pos hga, kdo, if_pos hg]
    by_cases hz : (bits .or .u64 (kcut x w).m (kcut y w).m == 0) = true
    · have hz' := hz
      rw [hxy, Bool.and_eq_true, beq_iff_eq, beq_iff_eq] at hz'
      have za : (kcut a w).m = 0 := tb_ext wa.2 zero_bd (fun i hi => by rw [tb_zero]; exact (c3 i hi (by rw [hz'.1, tb_zero])).1)
      have zb : (kcut b w).m = 0 := tb_ext wb.2 zero_bd (fun i hi => by rw [tb_zero]; exact (c4 i hi (by rw [hz'.2, tb_zero])).1)
      have va : (kcut a w).v = (kcut x w).v := tb_ext wa.1 wx.1 (fun i hi => (c3 i hi (by rw [hz'.1, tb_zero])).2)
      have vb : (kcut b w).v = (kcut y w).v := tb_ext wb.1 wy.1 (fun i hi => (c4 i hi (by rw [hz'.2, tb_zero])).2)
      rw [if_pos hz, if_pos (by rw [hab, za, zb]; rfl), va, vb]
      exact kin_refl (wf_kone (zdo_bd _ _ _ _ wx.1.1 wx.1.2 wy.1.1 wy.1.2)) (kmay_one _)
    · rw [if_neg hz]
      by_cases hs : (bits .or .u64 (kcut a w).m (kcut b w).m == 0) = true
      · rw [if_pos hs]
        have hh : khas (kdo op w x y) (zdo op w (kcut a w).v (kcut b w).v) = true := by
          have e : zdo op w (kcut a w).v (kcut b w).v = zdo op w a.v b.v := by rw [kcut_v ma, kcut_v mb, zdo_zcut]
          rw [e]
          exact kdo_has g0 g12 hw hx hy (kin_v ha hx h1) (kin_v hb hy h2) ha.1 hb.1
        rw [kdo, if_pos hg, if_neg hz] at hh
        have hzb := zdo_bd op w _ _ wa.1.1 wa.1.2 wb.1.1 wb.1.2
        have wk := wf_kcut (wf_kop wx wy op w) w
        rw [kin_iff2 wk]
        obtain ⟨q1, q2⟩ := (khas_iff2 wk _).1 hh
        refine ⟨kmay_one _, q1, fun i hi hm => ⟨?_, q2 i hi hm⟩⟩
        show tb 0 i = false
        exact tb_zero i
      · rw [if_neg hs]
        exact kin_cut (wf_kop wa wb op w) (wf_kop wx wy op w) (kop_mono g0 g12 hw wa wb wx wy k1 k2) hw
  · have : kdo op w x y = kall := by simp [kdo, hg]
    rw [this]
    exact kin_all (kmay_kdo ha hb)
end Go.Proofs.Ytkoiaadhbgccaaa
