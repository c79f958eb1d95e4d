/- What Do tells holds each result, and less where less is known. No walk is in here. -/
import Derived.Test.YtkoiaadhbgccaaaKnL3
set_option linter.unusedVariables false
set_option linter.unusedSimpArgs false
namespace Go.Proofs.Ytkoiaadhbgccaaa
open Go.RowKit

theorem zdo_cut {op w : Int} (a b : Int) (hw : w = 32 ∨ w = 64) : zcut (zdo op w a b) w = zdo op w a b := zcut_zdo op w a b
theorem low_mask {w : Int} (hw : w = 32 ∨ w = 64) {x : Int} (h0 : 0 ≤ x) (h1 : x ≤ 18446744073709551615) : bits .and .u64 x (w - 1) = x % w := by
  rcases hw with rfl | rfl
  · exact and31 x h0 h1
  · exact and63 x h0 h1
theorem cut_low {w : Int} (hw : w = 32 ∨ w = 64) (x : Int) : zcut x w % w = x % w := by
  rcases hw with rfl | rfl
  · rw [zcut_32]; omega
  · rw [zcut_64]
/-- A number among known bits whose lowest bits are all known has these. -/
theorem low_known {b : Kn} (hb : b.wf) {q : Int} (hq : khas b q = true) (q0 : 0 ≤ q) (q1 : q ≤ 18446744073709551615) {w : Int} (hw : w = 32 ∨ w = 64) (hk : (bits .and .u64 b.m (w - 1) == 0) = true) :
    bits .and .u64 b.v (w - 1) = q % w := by
  rw [← low_mask hw q0 q1]
  apply tb_ext (and_bd _ _) (and_bd _ _)
  intro i hi
  have h1 := (khas_iff hb q).1 hq i hi
  have h2 := (tb_eq (and_bd _ _) zero_bd).1 hk i hi
  rw [tb_and, tb_zero] at h2
  rw [tb_and, tb_and]
  revert h1 h2
  cases tb b.v i <;> cases tb b.m i <;> cases tb q i <;> cases tb (w - 1) i <;> simp
theorem pos_mod {w : Int} (hw : w = 32 ∨ w = 64) (q : Int) : ∃ s : Nat, q % w = s ∧ (s : Int) < w := by
  have h : 0 ≤ q % w ∧ q % w < w := by rcases hw with rfl | rfl <;> omega
  exact ⟨(q % w).toNat, by omega, by omega⟩

theorem shift_has {op w : Int} (hw : w = 32 ∨ w = 64) {a b : Kn} (ha : a.wf) (hb : b.wf) {p q : Int} (p0 : 0 ≤ p ∧ p ≤ 18446744073709551615) (q0 : 0 ≤ q ∧ q ≤ 18446744073709551615) (hop : op = 6 ∨ op = 7 ∨ op = 12)
    (key : ∀ r : Int, (0 ≤ r ∧ r ≤ 18446744073709551615) → khas (kop op w a b) r = true → zcut r w = zdo op w p q → khas (kcut (kop op w a b) w) (zdo op w p q) = true) (hp : khas a p = true) (hq : khas b q = true) :
    khas (kcut (kop op w a b) w) (zdo op w p q) = true := by
  refine key (zdo op w p q) (zdo_bd _ _ _ _ p0.1 p0.2 q0.1 q0.2) ?_ (zdo_cut _ _ hw)
  by_cases hk : (bits .and .u64 b.m (w - 1) == 0) = true
  · have e : kop op w a b = kshift op w a b := by
      unfold kop
      rcases hop with rfl | rfl | rfl <;> simp only [show ¬ (6 : Int) = 0 from by decide, show ¬ (6 : Int) = 1 from by decide, show ¬ (6 : Int) = 4 from by decide, show ¬ (6 : Int) = 5 from by decide, show ¬ (7 : Int) = 0 from by decide, show ¬ (7 : Int) = 1 from by decide, show ¬ (7 : Int) = 4 from by decide, show ¬ (7 : Int) = 5 from by decide, show ¬ (12 : Int) = 0 from by decide, show ¬ (12 : Int) = 1 from by decide, show ¬ (12 : Int) = 4 from by decide, show ¬ (12 : Int) = 5 from by decide, if_false, if_pos hk, true_or, or_true, if_true]
    rw [e]
    unfold kshift
    have hs := and_bd b.v (w - 1)
    rw [khas_mask (zdo_bd _ _ _ _ ha.2.1 ha.2.2 hs.1 hs.2)]
    obtain ⟨s, hsq, hsw⟩ := pos_mod hw q
    have hl := low_known hb hq q0.1 q0.2 hw hk
    have hmod : zcut (bits .and .u64 b.v (w - 1)) w % w = s := by rw [cut_low hw, hl, hsq]; exact Int.emod_eq_of_lt (by omega) hsw
    have hmq : zcut q w % w = s := by rw [cut_low hw, hsq]
    intro i hi hm
    rw [sel_do hop hw ha.2.1 ha.2.2 hsw hmod hi] at hm
    rw [sel_do hop hw p0.1 p0.2 hsw hmq hi, sel_do hop hw ha.1.1 ha.1.2 hsw hmod hi]
    cases hsrc : src op w s i with
    | none => rfl
    | some j =>
      rw [hsrc] at hm
      have hj := src_lt hw hsrc
      have h1 := ((khas_iff ha p).1 hp j hj).2
      have h2 : tb a.m j = false := hm
      rw [h2] at h1
      have h3 : tb p j = tb a.v j := by simpa using h1
      exact h3
  · have e : kop op w a b = kall := by
      unfold kop
      rcases hop with rfl | rfl | rfl <;> simp only [show ¬ (6 : Int) = 0 from by decide, show ¬ (6 : Int) = 1 from by decide, show ¬ (6 : Int) = 4 from by decide, show ¬ (6 : Int) = 5 from by decide, show ¬ (7 : Int) = 0 from by decide, show ¬ (7 : Int) = 1 from by decide, show ¬ (7 : Int) = 4 from by decide, show ¬ (7 : Int) = 5 from by decide, show ¬ (12 : Int) = 0 from by decide, show ¬ (12 : Int) = 1 from by decide, show ¬ (12 : Int) = 4 from by decide, show ¬ (12 : Int) = 5 from by decide, if_false, if_neg hk, true_or, or_true, if_true]
    rw [e]; exact khas_all _
/-- Each operation's result, ahead of the last cut. -/
theorem kop_has {op w : Int} (h0 : 0 ≤ op) (h12 : op ≤ 12) (hw : w = 32 ∨ w = 64) {a b : Kn} (ha : a.wf) (hb : b.wf) {p q : Int} (hp : khas a p = true) (hq : khas b q = true)
    (p0 : 0 ≤ p ∧ p ≤ 18446744073709551615) (q0 : 0 ≤ q ∧ q ≤ 18446744073709551615) (pc : zcut p w = p) (qc : zcut q w = q) :
    khas (kcut (kop op w a b) w) (zdo op w p q) = true := by
  have hwf := wf_kop ha hb op w
  have key : ∀ r : Int, (0 ≤ r ∧ r ≤ 18446744073709551615) → khas (kop op w a b) r = true → zcut r w = zdo op w p q → khas (kcut (kop op w a b) w) (zdo op w p q) = true := fun r hr h e => by
    rw [← e]; exact khas_cut hwf hr h hw
  have hz : zdo op w p q = zcut (zop op w p q (q % w)) w := by unfold zdo; rw [pc, qc]
  rcases op_cases h0 h12 with rfl | rfl | rfl | rfl | rfl | rfl | rfl | rfl | rfl | rfl | rfl | rfl | rfl
  · -- add
    refine key ((p + q) % 18446744073709551616) (by omega) ?_ (by rw [hz]; simp [zop])
    have e : kop 0 w a b = kadd a b := by simp [kop]
    rw [e]
    unfold kadd
    rw [khas_mask (or_bd _ _)]
    intro i hi hm
    obtain ⟨_, _, h⟩ := kadd_at ha hb hp hq hi hm
    have e1 : tb ((p + q) % 18446744073709551616) i = tb (p + q) i := by unfold tb; rw [← w_u64, bv_wrap]
    have e2 : tb (IntKind.u64.wrap (a.v + b.v)) i = tb (a.v + b.v) i := by unfold tb; rw [bv_wrap]
    rw [e1, e2, h]
  · -- sub
    refine key ((p - q) % 18446744073709551616) (by omega) ?_ (by rw [hz]; simp [zop])
    have e : kop 1 w a b = ksub a b := by simp [kop]
    rw [e]
    unfold ksub
    rw [khas_mask (or_bd _ _)]
    intro i hi hm
    obtain ⟨_, _, h⟩ := ksub_at ha hb hp hq hi hm
    have e1 : tb ((p - q) % 18446744073709551616) i = tb (p - q) i := by unfold tb; rw [← w_u64, bv_wrap]
    have e2 : tb (IntKind.u64.wrap (a.v - b.v)) i = tb (a.v - b.v) i := by unfold tb; rw [bv_wrap]
    rw [e1, e2, h]
  · have e : kop 2 w a b = kall := by simp [kop]
    refine key (zdo 2 w p q) (zdo_bd _ _ _ _ p0.1 p0.2 q0.1 q0.2) (by rw [e]; exact khas_all _) (zdo_cut _ _ hw)
  · have e : kop 3 w a b = kall := by simp [kop]
    refine key (zdo 3 w p q) (zdo_bd _ _ _ _ p0.1 p0.2 q0.1 q0.2) (by rw [e]; exact khas_all _) (zdo_cut _ _ hw)
  · -- or
    have e : kop 4 w a b = kor a b := by simp [kop]
    refine key (bits .or .u64 p q) (or_bd _ _) ?_ (by rw [hz, u64_or _ _ p0.1 (by omega) q0.1 (by omega)]; simp [zop])
    rw [e, khas_iff ⟨or_bd _ _, andNot_bd _ _⟩]
    intro i hi
    have h1 := (khas_iff ha p).1 hp i hi
    have h2 := (khas_iff hb q).1 hq i hi
    show (tb (bits .or .u64 a.v b.v) i && tb (bits .andNot .u64 (bits .or .u64 a.m b.m) (bits .or .u64 a.v b.v)) i) = false ∧ (tb (bits .or .u64 p q) i && !tb (bits .andNot .u64 (bits .or .u64 a.m b.m) (bits .or .u64 a.v b.v)) i) = tb (bits .or .u64 a.v b.v) i
    rw [tb_andNot _ _ hi, tb_or, tb_or, tb_or]
    revert h1 h2
    cases tb a.v i <;> cases tb a.m i <;> cases tb b.v i <;> cases tb b.m i <;> cases tb p i <;> cases tb q i <;> simp
  · -- and
    have e : kop 5 w a b = kand a b := by simp [kop]
    refine key (bits .and .u64 p q) (and_bd _ _) ?_ (by rw [hz, u64_and _ _ p0.1 (by omega) q0.1 (by omega)]; simp [zop])
    rw [e, khas_iff ⟨and_bd _ _, andNot_bd _ _⟩]
    intro i hi
    have h1 := (khas_iff ha p).1 hp i hi
    have h2 := (khas_iff hb q).1 hq i hi
    show (tb (bits .and .u64 a.v b.v) i && tb (bits .andNot .u64 (bits .and .u64 (bits .or .u64 a.v a.m) (bits .or .u64 b.v b.m)) (bits .and .u64 a.v b.v)) i) = false ∧ (tb (bits .and .u64 p q) i && !tb (bits .andNot .u64 (bits .and .u64 (bits .or .u64 a.v a.m) (bits .or .u64 b.v b.m)) (bits .and .u64 a.v b.v)) i) = tb (bits .and .u64 a.v b.v) i
    rw [tb_andNot _ _ hi, tb_and, tb_and, tb_and, tb_or, tb_or]
    revert h1 h2
    cases tb a.v i <;> cases tb a.m i <;> cases tb b.v i <;> cases tb b.m i <;> cases tb p i <;> cases tb q i <;> simp
  · exact shift_has hw ha hb p0 q0 (.inl rfl) key hp hq
  · exact shift_has hw ha hb p0 q0 (.inr (.inl rfl)) key hp hq
  · -- neg
    have e : kop 8 w a b = ksub (kone 0) a := by simp [kop]
    refine key ((0 - p) % 18446744073709551616) (by omega) ?_ (by rw [hz]; simp [zop])
    rw [e]
    unfold ksub
    rw [khas_mask (or_bd _ _)]
    intro i hi hm
    obtain ⟨_, _, h⟩ := ksub_at (wf_kone zero_bd) ha (khas_one zero_bd) hp hi hm
    have e1 : tb ((0 - p) % 18446744073709551616) i = tb (0 - p) i := by unfold tb; rw [← w_u64, bv_wrap]
    have e2 : tb (IntKind.u64.wrap ((kone 0).v - a.v)) i = tb ((kone 0).v - a.v) i := by unfold tb; rw [bv_wrap]
    rw [e1, e2, h]
  · have e : kop 9 w a b = kall := by simp [kop]
    refine key (zdo 9 w p q) (zdo_bd _ _ _ _ p0.1 p0.2 q0.1 q0.2) (by rw [e]; exact khas_all _) (zdo_cut _ _ hw)
  · -- xor
    have e : kop 10 w a b = kxor a b := by simp [kop]
    refine key (bits .xor .u64 p q) (xor_bd _ _) ?_ (by rw [hz, u64_xor _ _ p0.1 (by omega) q0.1 (by omega)]; simp [zop])
    rw [e]
    unfold kxor
    rw [khas_mask (or_bd _ _)]
    intro i hi hm
    have h1 := (khas_iff ha p).1 hp i hi
    have h2 := (khas_iff hb q).1 hq i hi
    rw [tb_or] at hm
    rw [tb_xor, tb_xor]
    revert h1 h2 hm
    cases tb a.v i <;> cases tb a.m i <;> cases tb b.v i <;> cases tb b.m i <;> cases tb p i <;> cases tb q i <;> simp
  · have e : kop 11 w a b = b := by simp [kop]
    refine key q q0 (by rw [e]; exact hq) (by rw [hz]; simp [zop])
  · exact shift_has hw ha hb p0 q0 (.inr (.inr rfl)) key hp hq
theorem single_eq {a : Kn} (ha : a.wf) {p : Int} (hp : khas a p = true) (p0 : 0 ≤ p ∧ p ≤ 18446744073709551615) (hm : a.m = 0) : a.v = p := by
  apply tb_ext ha.1 p0
  intro i hi
  have h := ((khas_iff ha p).1 hp i hi).2
  rw [hm, tb_zero] at h
  simpa using h.symm
theorem kgood_of {op w : Int} {a b : Kn} (h : kgood op w a b = true) : kmay a = true ∧ kmay b = true ∧ 0 ≤ op ∧ op ≤ 12 ∧ (w = 32 ∨ w = 64) := by
  simp only [kgood, Bool.and_eq_true, decide_eq_true_eq] at h
  exact ⟨h.1, h.2.1, h.2.2.1, h.2.2.2.1, zlong_cases h.2.2.2.2⟩
theorem kgood_mk {op w : Int} {a b : Kn} (h1 : kmay a = true) (h2 : kmay b = true) (h3 : 0 ≤ op) (h4 : op ≤ 12) (h5 : w = 32 ∨ w = 64) : kgood op w a b = true := by
  have : zlong w = true := by rcases h5 with rfl | rfl <;> rfl
  simp [kgood, h1, h2, h3, h4, this]
/-- Do holds each result. -/
theorem kdo_has {op w : Int} (h0 : 0 ≤ op) (h12 : op ≤ 12) (hw : w = 32 ∨ w = 64) {a b : Kn} (ha : a.wf) (hb : b.wf) {p q : Int} (hp : khas a p = true) (hq : khas b q = true)
    (p0 : 0 ≤ p ∧ p ≤ 18446744073709551615) (q0 : 0 ≤ q ∧ q ≤ 18446744073709551615) : khas (kdo op w a b) (zdo op w p q) = true := by
  have hA := khas_cut ha p0 hp hw
  have hB := khas_cut hb q0 hq hw
  have hP := zcut_bd p w p0.1 p0.2
  have hQ := zcut_bd q w q0.1 q0.2
  have wA := wf_kcut ha w
  have wB := wf_kcut hb w
  rw [← zdo_zcut, kdo, if_pos (kgood_mk (khas_may hp) (khas_may hq) h0 h12 hw)]
  split
  · rename_i hm
    rw [or_zero wA.2.1 wA.2.2 wB.2.1 wB.2.2, Bool.and_eq_true, beq_iff_eq, beq_iff_eq] at hm
    rw [single_eq wA hA hP hm.1, single_eq wB hB hQ hm.2]
    exact khas_one (zdo_bd _ _ _ _ hP.1 hP.2 hQ.1 hQ.2)
  · exact kop_has h0 h12 hw wA wB hA hB hP hQ (zcut_zcut _ _) (zcut_zcut _ _)
theorem kmay_kop {op w : Int} {a b : Kn} (hb : kmay b = true) : kmay (kop op w a b) = true := by
  unfold kop
  repeat' split
  · exact kmay_mask _ _
  · exact kmay_mask _ _
  · rw [kmay_iff]
    intro i hi
    show (tb (bits .or .u64 a.v b.v) i && tb (bits .andNot .u64 (bits .or .u64 a.m b.m) (bits .or .u64 a.v b.v)) i) = false
    rw [tb_andNot _ _ hi]
    cases tb (bits .or .u64 a.v b.v) i <;> simp
  · rw [kmay_iff]
    intro i hi
    show (tb (bits .and .u64 a.v b.v) i && tb (bits .andNot .u64 _ (bits .and .u64 a.v b.v)) i) = false
    rw [tb_andNot _ _ hi]
    cases tb (bits .and .u64 a.v b.v) i <;> simp
  · exact kmay_mask _ _
  · exact kmay_all
  · exact kmay_mask _ _
  · exact kmay_mask _ _
  · exact hb
  · exact kmay_all
theorem kmay_kdo {op w : Int} {a b : Kn} (ha : a.wf) (hb : b.wf) : kmay (kdo op w a b) = true := by
  unfold kdo
  split
  · rename_i hg
    obtain ⟨h1, h2, h3, h4, hw⟩ := kgood_of hg
    split
    · exact kmay_one _
    · exact kmay_cut (wf_kop (wf_kcut ha w) (wf_kcut hb w) op w) hw
  · exact kmay_all
end Go.Proofs.Ytkoiaadhbgccaaa
