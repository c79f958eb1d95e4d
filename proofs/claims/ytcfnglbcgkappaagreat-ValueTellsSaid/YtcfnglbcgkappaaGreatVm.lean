/- What scalars hold is held by what they are joined and widened to, and each result of an operation by Do: plain laws. No walk is in here. -/
import Derived.Test.YtcfnglbcgkappaaGreatVlZ
set_option linter.unusedVariables false
set_option linter.unusedSimpArgs false
namespace Go.Proofs.YtcfnglbcgkappaaGreat
open Go Go.RowKit
theorem wf_bjoin {a b : Rg} (ha : a.wf) (hb : b.wf) : (bjoin a b).wf := by
  obtain ⟨a1, a2, a3, a4⟩ := ha
  obtain ⟨b1, b2, b3, b4⟩ := hb
  unfold bjoin
  split
  · unfold bjoin0
    refine ⟨?_, ?_, ?_, ?_⟩ <;> simp only <;> omega
  · exact wf_ball
theorem kjoin_has1 {a b : Kn} (ha : a.wf) {x : Int} (h1 : khas a x = true) (h2 : kmay b = true) : khas (kjoin a b) x = true := kin_has ha (wf_kjoin a b) (kin_join1 (khas_may h1) h2) h1
theorem kjoin_has2 {a b : Kn} (hb : b.wf) {x : Int} (h1 : kmay a = true) (h2 : khas b x = true) : khas (kjoin a b) x = true := kin_has hb (wf_kjoin a b) (kin_join2 h1 (khas_may h2)) h2
theorem vmay_r {a : Sc} (h : vmay a = true) : bmay a.r = true := by unfold vmay at h; rw [Bool.and_eq_true] at h; exact h.1
theorem vmay_k {a : Sc} (h : vmay a = true) : kmay a.k = true := by unfold vmay at h; rw [Bool.and_eq_true] at h; exact h.2
theorem wf_bwid {a b : Rg} (ha : a.wf) : (bwid a b).wf := by
  obtain ⟨a1, a2, a3, a4⟩ := ha
  unfold bwid
  refine ⟨?_, ?_, ?_, ?_⟩ <;> simp only <;> split <;> omega
theorem wid_out {a b : Rg} : (bwid a b).ul ≤ a.ul ∨ a.ul < 0 := by
  by_cases h : a.ul < 0
  · exact .inr h
  · left; unfold bwid; simp only; split <;> omega
theorem wid_has {a b : Rg} (ha : a.wf) (hb : b.wf) {z : Int} (hz : 0 ≤ z ∧ z ≤ 18446744073709551615) (h : bhas a z = true ∨ bhas b z = true) : bhas (bwid a b) z = true := by
  have hs := s64_bd z
  obtain ⟨a1, a2, a3, a4⟩ := ha
  obtain ⟨b1, b2, b3, b4⟩ := hb
  rw [bhas_iff, bhas_iff] at h
  rw [bhas_iff]
  unfold bwid
  simp only [beq_eq_false_iff_ne, decide_eq_true_eq, ne_eq]
  refine ⟨?_, ?_, ?_, ?_⟩ <;> split <;> omega
theorem vjoin_has {a b : Sc} (ha : a.wf) (hb : b.wf) {z : Int} (hz : 0 ≤ z ∧ z ≤ 18446744073709551615) (ma : vmay a = true) (mb : vmay b = true) (h : vhas a z = true ∨ vhas b z = true) : vhas (vjoin a b) z = true := by
  unfold vjoin
  rw [if_pos ⟨ma, mb⟩]
  refine (vnar_has (wf_sc (wf_bjoin ha.r hb.r) (wf_kjoin _ _)) hz ?_).2
  rcases h with h | h
  · exact vhas_mk (a := sc _ _) (has_join1 (vhas_r h) (vmay_r mb)) (kjoin_has1 ha.k (vhas_k h) (vmay_k mb))
  · exact vhas_mk (a := sc _ _) (has_join2 (vmay_r ma) (vhas_r h)) (kjoin_has2 hb.k (vmay_k ma) (vhas_k h))
theorem vwid_has {a b : Sc} (ha : a.wf) (hb : b.wf) {z : Int} (hz : 0 ≤ z ∧ z ≤ 18446744073709551615) (ma : vmay a = true) (mb : vmay b = true) (h : vhas a z = true ∨ vhas b z = true) : vhas (vwid a b) z = true := by
  unfold vwid
  rw [if_pos ⟨ma, mb⟩]
  refine (vnar_has (wf_sc (wf_bwid ha.r) (wf_kjoin _ _)) hz ?_).2
  refine vhas_mk (a := sc _ _) (wid_has ha.r hb.r hz ?_) ?_
  · rcases h with h | h
    · exact .inl (vhas_r h)
    · exact .inr (vhas_r h)
  · rcases h with h | h
    · exact kjoin_has1 ha.k (vhas_k h) (vmay_k mb)
    · exact kjoin_has2 hb.k (vmay_k ma) (vhas_k h)
theorem wf_blow {a : Rg} (ha : a.wf) : (blow a).wf := by
  unfold blow
  split
  · exact ha
  · exact wf_bnar (wf_bu (by omega) (by omega) (by omega) (by omega))
theorem vlow_has {a : Sc} (ha : a.wf) {z : Int} (hz : 0 ≤ z ∧ z ≤ 18446744073709551615) (h : vhas a z = true) : vhas (vlow a) (zcut z 32) = true := by
  refine (vnar_has (wf_sc (wf_blow ha.r) (wf_kcut ha.k 32)) (zcut_bd z 32 hz.1 hz.2) ?_).2
  refine vhas_mk (a := sc _ _) ?_ (khas_cut ha.k hz (vhas_k h) (.inl rfl))
  rw [zcut_32]
  exact has_low hz.1 (vhas_r h)
theorem wf_vlow {a : Sc} (ha : a.wf) : (vlow a).wf := wf_vnar (wf_sc (wf_blow ha.r) (wf_kcut ha.k 32))
theorem low_all {z : Int} (z0 : 0 ≤ z) (z1 : z ≤ 4294967295) : bhas (blow ball) z = true := by
  have h := has_low z0 (has_ball z z0 (by omega))
  rw [Int.emod_eq_of_lt z0 (by omega)] at h
  exact h
theorem cap_has {r : Rg} {y z : Int} (h : bhas r y = true) (e : y ≤ 4294967295 → y = z) (z0 : 0 ≤ z) (z1 : z ≤ 4294967295) : bhas (vcap r) z = true := by
  unfold vcap
  split
  · have := (bhas_iff r y).1 h
    rw [← e (by omega)]; exact h
  · exact low_all z0 z1
theorem bone_has {v : Int} : bhas (bone v) v = true := by rw [bhas_iff]; exact ⟨Int.le_refl _, Int.le_refl _, Int.le_refl _, Int.le_refl _⟩
theorem vone_k (v : Int) : (vone v).k = kone v := rfl
theorem vone_r (v : Int) : (vone v).r = bone v := rfl
theorem vsingle_eq {a : Sc} (ha : a.wf) {y : Int} (hy : 0 ≤ y ∧ y ≤ 18446744073709551615) (h : vhas a y = true) (ho : vones a = true) : vsingle a = y := by
  unfold vones at ho
  rw [Bool.and_eq_true] at ho
  have e := bone_only ho.2 hy.1 hy.2
  rw [vhas_r h] at e
  have e := of_decide_eq_true e.symm
  unfold vsingle bsingle
  rw [if_pos ho.1, if_pos ho.2, e]
theorem do_32 {op x y : Int} (h0 : 0 ≤ op) (h12 : op ≤ 12) (n8 : op ≠ 8) (n12 : op ≠ 12) (n6 : op ≠ 6) (n7 : op ≠ 7) (x0 : 0 ≤ x) (x1 : x ≤ 4294967295) (y0 : 0 ≤ y) (y1 : y ≤ 4294967295) (hs : zdo op 64 x y ≤ 4294967295) : zdo op 64 x y = zdo op 32 x y := by
  have hb := (zdo_bd op 64 x y x0 (by omega) y0 (by omega)).1
  unfold zdo at hs hb ⊢
  rw [zcut_64, zcut_64, zcut_64] at hs hb ⊢
  rw [zcut_32, zcut_32, zcut_32, Int.emod_eq_of_lt (b := 4294967296) x0 (by omega), Int.emod_eq_of_lt (b := 4294967296) y0 (by omega)]
  have e : zop op 32 x y (y % 32) = zop op 64 x y (y % 64) := by
    unfold zop
    by_cases c0 : op = 0
    · simp [c0]
    by_cases c1 : op = 1
    · simp [c1]
    by_cases c2 : op = 2
    · simp [c2]
    by_cases c3 : op = 3
    · simp [c3]
    by_cases c4 : op = 4
    · simp [c4]
    by_cases c5 : op = 5
    · simp [c5]
    by_cases c9 : op = 9
    · simp [c9]
    by_cases c10 : op = 10
    · simp [c10]
    obtain rfl : op = 11 := by omega
    simp
  rw [e, Int.emod_eq_of_lt hb (by omega)]
theorem do_sh {op x y : Int} (ho : op = 6 ∨ op = 7) (x0 : 0 ≤ x) (x1 : x ≤ 4294967295) (y0 : 0 ≤ y) (y1 : y ≤ 4294967295) (hs : zdo op 64 x (y % 32) ≤ 4294967295) : zdo op 64 x (y % 32) = zdo op 32 x y := by
  have hb := (zdo_bd op 64 x (y % 32) x0 (by omega) (by omega) (by omega)).1
  unfold zdo at hs hb ⊢
  rw [zcut_64, zcut_64, zcut_64] at hs hb ⊢
  rw [zcut_32, zcut_32, zcut_32, Int.emod_eq_of_lt (b := 4294967296) x0 (by omega), Int.emod_eq_of_lt (b := 4294967296) y0 (by omega)]
  have e : zop op 32 x y (y % 32) = zop op 64 x (y % 32) (y % 32 % 64) := by
    rw [Int.emod_eq_of_lt (a := y % 32) (b := 64) (by omega) (by omega)]
    rcases ho with rfl | rfl <;> simp [zop]
  rw [e, Int.emod_eq_of_lt hb (by omega)]
theorem half_has {op : Int} {a b : Sc} (ha : a.wf) (hb : b.wf) {x y : Int} (h0 : 0 ≤ op) (h12 : op ≤ 12) (x0 : 0 ≤ x) (x1 : x ≤ 4294967295) (y0 : 0 ≤ y) (y1 : y ≤ 4294967295) (h1 : vhas a x = true) (h2 : vhas b y = true) : bhas (vhalf op a b) (zdo op 32 x y) = true := by
  have hz0 := (zdo_bd op 32 x y x0 (by omega) y0 (by omega)).1
  have hz1 : zdo op 32 x y ≤ 4294967295 := by unfold zdo; rw [zcut_32]; omega
  unfold vhalf
  by_cases c : op = 8 ∨ op = 12
  · rw [if_pos c]; exact low_all hz0 hz1
  rw [if_neg c]
  by_cases d : op = 6 ∨ op = 7
  · rw [if_pos d]
    by_cases ho : vones b = true
    · rw [if_pos ho, vsingle_eq hb ⟨y0, by omega⟩ h2 ho]
      have e : opI .and .u64 y 31 = y % 32 := and31 y y0 (by omega)
      rw [e, vone_r]
      have hz := zdo_bd op 64 x (y % 32) x0 (by omega) (by omega) (by omega)
      exact cap_has (has_do ha.r (wf_bone (by omega) (by omega)) x0 (by omega) (by omega) (by omega) (vhas_r h1) bone_has hz.1 hz.2) (fun hs => do_sh d x0 x1 y0 y1 hs) hz0 hz1
    · rw [if_neg ho]; exact low_all hz0 hz1
  · rw [if_neg d]
    have hz := zdo_bd op 64 x y x0 (by omega) y0 (by omega)
    exact cap_has (has_do ha.r hb.r x0 (by omega) y0 (by omega) (vhas_r h1) (vhas_r h2) hz.1 hz.2) (fun hs => do_32 h0 h12 (by omega) (by omega) (by omega) (by omega) x0 x1 y0 y1 hs) hz0 hz1
theorem okop_d {op l : Int} (h : okop op l = true) : 0 ≤ op ∧ op ≤ 12 ∧ (l = 32 ∨ l = 64) := by
  unfold okop zlong at h
  simp only [Bool.and_eq_true, decide_eq_true_eq, Bool.or_eq_true, beq_iff_eq] at h
  exact ⟨h.1.1, h.1.2, h.2⟩
end Go.Proofs.YtcfnglbcgkappaaGreat
