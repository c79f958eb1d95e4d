/- Do of scalars holds each result; of single ones it is single: plain laws. No walk is in here. -/
import Derived.Test.YtcngfmhhaleoaaaVm
set_option linter.unusedVariables false
set_option linter.unusedSimpArgs false
namespace Go.Proofs.Ytcngfmhhaleoaaa
open Go Go.RowKit
theorem wf_vhalf {op : Int} {a b : Sc} (wA : a.wf) (wB : b.wf) : (vhalf op a b).wf := by
  unfold vhalf vcap
  have w1 := wf_blow wf_ball
  split
  · exact w1
  · split
    · split
      · split
        · exact wf_bdo wA.r (by rw [vone_r]; exact wf_bone (and_bd _ _).1 (and_bd _ _).2)
        · exact w1
      · exact w1
    · split
      · exact wf_bdo wA.r wB.r
      · exact w1
theorem vdo_has {op l : Int} {a b : Sc} (ha : a.wf) (hb : b.wf) {p q : Int} (hp : 0 ≤ p ∧ p ≤ 18446744073709551615) (hq : 0 ≤ q ∧ q ≤ 18446744073709551615) (h1 : vhas a p = true) (h2 : vhas b q = true) (hk : okop op l = true) : vhas (vdo op l a b) (zdo op l p q) = true := by
  obtain ⟨h0, h12, hl⟩ := okop_d hk
  have hz := zdo_bd op l p q hp.1 hp.2 hq.1 hq.2
  unfold vdo
  rw [if_pos ⟨hk, vhas_may h1, vhas_may h2⟩]
  rcases hl with rfl | rfl
  · rw [if_neg (by decide)]
    have g1 := vlow_has ha hp h1
    have g2 := vlow_has hb hq h2
    have wA := wf_vlow ha
    have wB := wf_vlow hb
    have bp := zcut_bd p 32 hp.1 hp.2
    have bq := zcut_bd q 32 hq.1 hq.2
    have cp : zcut p 32 ≤ 4294967295 := by rw [zcut_32]; omega
    have cq : zcut q 32 ≤ 4294967295 := by rw [zcut_32]; omega
    have hh := half_has wA wB h0 h12 bp.1 cp bq.1 cq g1 g2
    have hK := kdo_has h0 h12 (w := 32) (.inl rfl) wA.k wB.k (vhas_k g1) (vhas_k g2) bp bq
    rw [zdo_zcut] at hh hK
    have hR := wf_vhalf (op := op) wA wB
    have hn := vnar_has (a := vhf op 32 a b) (wf_sc hR (wf_kdo wA.k wB.k op 32)) hz (vhas_mk (a := sc _ _) hh hK)
    rw [if_pos hn.1]
    exact hn.2
  · rw [if_pos rfl]
    exact (vnar_has (wf_sc (wf_bdo ha.r hb.r) (wf_kdo ha.k hb.k op 64)) hz (vhas_mk (a := sc _ _) (has_do ha.r hb.r hp.1 hp.2 hq.1 hq.2 (vhas_r h1) (vhas_r h2) hz.1 hz.2) (kdo_has h0 h12 (.inr rfl) ha.k hb.k (vhas_k h1) (vhas_k h2) hp hq))).2
theorem or0 {z : Int} (hz : 0 ≤ z ∧ z ≤ 18446744073709551615) : bits .or .u64 z 0 = z := by
  obtain ⟨n, rfl⟩ := Int.eq_ofNat_of_zero_le hz.1
  rw [show (0 : Int) = ((0 : Nat) : Int) from rfl, u64_or_nat n 0 (by omega) (by omega)]
  simp
theorem kn_ext' {a b : Kn} (h1 : a.v = b.v) (h2 : a.m = b.m) : a = b := by cases a; cases b; simp_all
theorem and0 (z : Int) (hz : 0 ≤ z ∧ z ≤ 18446744073709551615) : bits .and .u64 0 z = 0 := by
  obtain ⟨n, rfl⟩ := Int.eq_ofNat_of_zero_le hz.1
  rw [show (0 : Int) = ((0 : Nat) : Int) from rfl, u64_and_nat 0 n (by omega) (by omega)]
  simp
theorem sub_meet2 {a b : Rg} (h : bmeets a b = true) : (bmeet a b).Sub b := by
  have h' := h
  unfold bmeets at h'
  simp only [Bool.and_eq_true] at h'
  unfold bmeet
  rw [if_pos h]
  refine (sub_bnar h'.2.2).trans ?_
  unfold Rg.Sub bmeet0
  simp only
  omega
theorem vst_one {X : Sc} (hX : X.wf) {z : Int} (hz : 0 ≤ z ∧ z ≤ 18446744073709551615) (hk : X.k = kone z) (h : vhas X z = true) : (vst X).k = kone z ∧ (vst X).r.ul = z ∧ (vst X).r.uh = z := by
  obtain ⟨h1, h2, h3⟩ := vst_has hX hz h
  have hs := sub_meet2 h1
  have hh := (bhas_iff _ _).1 (vhas_r h3)
  have e0 : vlo X.k = ⟨z, z, ball.sl, ball.sh⟩ := by
    rw [hk]
    unfold vlo
    rw [show bits .or .u64 (kone z).v (kone z).m = z from or0 hz]
    rfl
  rw [e0] at hs
  have hm : (vst X).k.m = 0 := by
    show (kmeet X.k (kcom (vst X).r)).m = 0
    have h2' : kmeets X.k (kcom (vst X).r) = true := h2
    unfold kmeet
    rw [if_pos h2', hk]
    exact and0 _ (wf_kcom (wf_vst hX).r).2
  refine ⟨kn_ext' (single_eq (wf_vst hX).k (vhas_k h3) hz hm) hm, ?_, ?_⟩
  · have := hs.1; have := hs.2.1
    have g : (vst X).r = bmeet X.r ⟨z, z, ball.sl, ball.sh⟩ := by rw [← e0]; rfl
    rw [g] at hh ⊢
    rw [e0] at *
    simp only at *
    omega
  · have := hs.1; have := hs.2.1
    have g : (vst X).r = bmeet X.r ⟨z, z, ball.sl, ball.sh⟩ := by rw [← e0]; rfl
    rw [g] at hh ⊢
    rw [e0] at *
    simp only at *
    omega
theorem vnar_one {X : Sc} (hX : X.wf) {z : Int} (hz : 0 ≤ z ∧ z ≤ 18446744073709551615) (hk : X.k = kone z) (h : vhas X z = true) : vones (vnar X) = true ∧ vsingle (vnar X) = z ∧ (vnar X).k = kone z := by
  obtain ⟨h1, h2, h3⟩ := vst_has hX hz h
  obtain ⟨g1, g2, g3⟩ := vst_has (wf_vst hX) hz h3
  have e := vn_t (vhas_may h) h1 h2 g1 g2
  obtain ⟨k1, _, _⟩ := vst_one hX hz hk h
  obtain ⟨k2, u1, u2⟩ := vst_one (wf_vst hX) hz k1 h3
  rw [e.1]
  have ho : vones (vst (vst X)) = true := by
    unfold vones bones
    rw [vhas_may g3, u1, u2, vhas_r g3]
    simp
  exact ⟨ho, vsingle_eq (wf_vst (wf_vst hX)) hz g3 ho, k2⟩
theorem kdo_one {op l v u : Int} (h0 : 0 ≤ op) (h12 : op ≤ 12) (hl : l = 32 ∨ l = 64) : kdo op l (kone v) (kone u) = kone (zdo op l v u) := by
  have c : ∀ x : Int, kcut (kone x) l = kone (zcut x l) := by
    intro x
    rw [kcut_v (kmay_one x)]
    refine kn_ext' rfl ?_
    show zcut 0 l = 0
    rcases hl with rfl | rfl <;> rfl
  unfold kdo
  rw [if_pos (kgood_mk (kmay_one v) (kmay_one u) h0 h12 hl), c, c, if_pos (show (bits .or .u64 (kone (zcut v l)).m (kone (zcut u l)).m == 0) = true from (by decide : (bits .or .u64 0 0 == 0) = true))]
  show kone (zdo op l (zcut v l) (zcut u l)) = _
  rw [zdo_zcut]
theorem wf_vone {v : Int} (hv : 0 ≤ v ∧ v ≤ 18446744073709551615) : (vone v).wf := wf_sc (wf_bone hv.1 hv.2) (wf_kone hv)
theorem vone_has {v : Int} (hv : 0 ≤ v ∧ v ≤ 18446744073709551615) : vhas (vone v) v = true := vhas_mk (a := vone v) bone_has (khas_one hv)
theorem vlow_one {v : Int} (hv : 0 ≤ v ∧ v ≤ 18446744073709551615) : (vlow (vone v)).k = kone (zcut v 32) := by
  refine (vnar_one (z := zcut v 32) (wf_sc (wf_blow (wf_vone hv).r) (wf_kcut (wf_vone hv).k 32)) (zcut_bd v 32 hv.1 hv.2) ?_ ?_).2.2
  · show kcut (kone v) 32 = _
    rw [kcut_v (kmay_one v)]
    rfl
  · refine vhas_mk (a := sc _ _) ?_ (khas_cut (wf_vone hv).k hv (khas_one hv) (.inl rfl))
    rw [zcut_32]
    exact has_low hv.1 bone_has
theorem vdo_one {op l v u : Int} (hv : 0 ≤ v ∧ v ≤ 18446744073709551615) (hu : 0 ≤ u ∧ u ≤ 18446744073709551615) (hk : okop op l = true) : vones (vdo op l (vone v) (vone u)) = true ∧ vsingle (vdo op l (vone v) (vone u)) = zdo op l v u := by
  obtain ⟨h0, h12, hl⟩ := okop_d hk
  have hz := zdo_bd op l v u hv.1 hv.2 hu.1 hu.2
  have m1 := vhas_may (vone_has hv)
  have m2 := vhas_may (vone_has hu)
  unfold vdo
  rw [if_pos ⟨hk, m1, m2⟩]
  rcases hl with rfl | rfl
  · rw [if_neg (by decide)]
    have g1 := vlow_has (wf_vone hv) hv (vone_has hv)
    have g2 := vlow_has (wf_vone hu) hu (vone_has hu)
    have wA := wf_vlow (wf_vone hv)
    have wB := wf_vlow (wf_vone hu)
    have bp := zcut_bd v 32 hv.1 hv.2
    have bq := zcut_bd u 32 hu.1 hu.2
    have cp : zcut v 32 ≤ 4294967295 := by rw [zcut_32]; omega
    have cq : zcut u 32 ≤ 4294967295 := by rw [zcut_32]; omega
    have hh := half_has wA wB h0 h12 bp.1 cp bq.1 cq g1 g2
    have hK := kdo_has h0 h12 (w := 32) (.inl rfl) wA.k wB.k (vhas_k g1) (vhas_k g2) bp bq
    rw [zdo_zcut] at hh hK
    have hR := wf_vhalf (op := op) wA wB
    have hX : (vhf op 32 (vone v) (vone u)).wf := wf_sc hR (wf_kdo wA.k wB.k op 32)
    have hV : vhas (vhf op 32 (vone v) (vone u)) (zdo op 32 v u) = true := vhas_mk (a := sc _ _) hh hK
    have hn := vnar_has hX hz hV
    rw [if_pos hn.1]
    have ho := vnar_one hX hz (by show kdo op 32 (vlow (vone v)).k (vlow (vone u)).k = _; rw [vlow_one hv, vlow_one hu, kdo_one h0 h12 (.inl rfl), zdo_zcut]) hV
    exact ⟨ho.1, ho.2.1⟩
  · rw [if_pos rfl]
    have hX : (sc (bdo op (vone v).r (vone u).r) (kdo op 64 (vone v).k (vone u).k)).wf := wf_sc (wf_bdo (wf_vone hv).r (wf_vone hu).r) (wf_kdo (wf_vone hv).k (wf_vone hu).k op 64)
    have hV : vhas (sc (bdo op (vone v).r (vone u).r) (kdo op 64 (vone v).k (vone u).k)) (zdo op 64 v u) = true := vhas_mk (a := sc _ _) (has_do (wf_vone hv).r (wf_vone hu).r hv.1 hv.2 hu.1 hu.2 bone_has bone_has hz.1 hz.2) (kdo_has h0 h12 (.inr rfl) (wf_vone hv).k (wf_vone hu).k (khas_one hv) (khas_one hu) hv hu)
    have ho := vnar_one hX hz (kdo_one h0 h12 (.inr rfl)) hV
    exact ⟨ho.1, ho.2.1⟩
theorem vdo_bad {op l : Int} {a b : Sc} (h : okop op l = false) : vdo op l a b = vall := if_neg (fun e => by rw [h] at e; exact absurd e.1 (by simp))
end Go.Proofs.Ytcngfmhhaleoaaa
