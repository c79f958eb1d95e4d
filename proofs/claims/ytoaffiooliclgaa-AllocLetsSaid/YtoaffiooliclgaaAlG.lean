/- Giving spans homes, in plain words: what the laws ask. No walk is in here. -/
import Derived.Test.YtoaffiooliclgaaAlE
set_option linter.unusedSimpArgs false
set_option linter.unusedVariables false
set_option linter.unusedVariables false
set_option linter.unusedSimpArgs false
namespace Go.Proofs.Ytoaffiooliclgaa
open Go Go.RowKit
def aHas (l : List Row) (v : Int) : Bool := decide (∃ i, i < l.length ∧ gt l (i : Int) 0 = v)
def homeR (o : Bool) : List Row := (homesL o).map fun h => [h]
def aMay1 (k n : Int) (o : Bool) : Bool := decide (k = 1) && aHas (homeR o) n
theorem aHas_map (v : Int) (H : List Int) : aHas (H.map fun h => [h]) v = decide (v ∈ H) := by
  refine decide_eq_decide.2 ⟨fun ⟨i, hi, e⟩ => ?_, fun h => ?_⟩
  · rw [List.length_map] at hi
    have e2 : (H.map fun h => ([h] : Row)).getD i [] = [H[i]] := by rw [List.getD_eq_getElem?_getD, List.getElem?_map, List.getElem?_eq_getElem hi]; rfl
    have e3 : gt (H.map fun h => [h]) (i : Int) 0 = H[i] := by
      show ((H.map fun h => ([h] : Row)).getD i []).getD 0 0 = _
      rw [e2]; rfl
    rw [← e, e3]; exact List.getElem_mem hi
  · obtain ⟨i, hi, e⟩ := List.getElem_of_mem h
    refine ⟨i, by rw [List.length_map]; exact hi, ?_⟩
    have e2 : (H.map fun h => ([h] : Row)).getD i [] = [H[i]] := by rw [List.getD_eq_getElem?_getD, List.getElem?_map, List.getElem?_eq_getElem hi]; rfl
    show ((H.map fun h => ([h] : Row)).getD i []).getD 0 0 = _
    rw [e2]; exact e
theorem aMay1_iff (k n : Int) (o : Bool) : aMay1 k n o = true ↔ k = 1 ∧ n ∈ homesL o := by
  unfold aMay1 homeR
  rw [aHas_map, Bool.and_eq_true, decide_eq_true_eq, decide_eq_true_eq]
def kf (p : P11) (i : Nat) : Int := ([p.k0, p.k1, p.k2, p.k3, p.k4, p.k5, p.k6, p.k7, p.k8, p.k9, p.k10] : List Int).getD i 0
def nf (p : P11) (i : Nat) : Int := ([p.n0, p.n1, p.n2, p.n3, p.n4, p.n5, p.n6, p.n7, p.n8, p.n9, p.n10] : List Int).getD i 0
theorem kf_mk (p : P11) (i : Nat) : ([p.k0, p.k1, p.k2, p.k3, p.k4, p.k5, p.k6, p.k7, p.k8, p.k9, p.k10] : List Int).getD i 0 = kf p i := rfl
theorem nf_mk (p : P11) (i : Nat) : ([p.n0, p.n1, p.n2, p.n3, p.n4, p.n5, p.n6, p.n7, p.n8, p.n9, p.n10] : List Int).getD i 0 = nf p i := rfl
theorem kf_p11 {K N : List Int} (h : K.length = 11) (i : Nat) : kf (p11 K N) i = K.getD i 0 := by
  show (kl K).getD i 0 = _
  rw [kl_eq h]
theorem nf_p11 {K N : List Int} (h : N.length = 11) (i : Nat) : nf (p11 K N) i = N.getD i 0 := by
  show (kl N).getD i 0 = _
  rw [kl_eq h]
theorem nf_rng {p : P11} (h : p.ok) (i : Nat) : -128 ≤ nf p i ∧ nf p i ≤ 127 := by
  have key : ∀ (L : List Int), (∀ x ∈ L, -128 ≤ x ∧ x ≤ 127) → ∀ i : Nat, -128 ≤ L.getD i 0 ∧ L.getD i 0 ≤ 127 := by
    intro L hL i
    rw [List.getD_eq_getElem?_getD]
    cases hx : L[i]? with
    | none => exact ⟨by decide, by decide⟩
    | some x => exact hL x (List.mem_of_getElem? hx)
  refine key _ (fun x hx => ?_) i
  simp only [P11.ok, inK_iff, IntKind.min, IntKind.max, IntKind.signed, IntKind.bits] at h
  simp only [List.mem_cons, List.not_mem_nil, or_false] at hx
  simp at h
  rcases hx with rfl | rfl | rfl | rfl | rfl | rfl | rfl | rfl | rfl | rfl | rfl <;> omega
def okPl (k n : Int) : Prop := (k = 0 ∧ n = 0) ∨ aMay1 k n false = true ∨ (k = 2 ∧ 0 ≤ n ∧ n < 11)
instance (k n : Int) : Decidable (okPl k n) := by unfold okPl; infer_instance
def aMayN (p : P11) (n : Nat) : Bool := decide (∀ i, i < n → okPl (kf p i) (nf p i))
def aMayA (p : P11) : Bool := aMayN p 11
theorem aMayA_n {p : P11} {i : Nat} (hi : i < 11) (h : ¬ okPl (kf p i) (nf p i)) : aMayA p = false := decide_eq_false fun q => h (q i hi)
theorem aMayA_y {p : P11} {i : Nat} (hi : ¬ i < 11) (h : ∀ m, m < i → okPl (kf p m) (nf p m)) : aMayA p = true := decide_eq_true fun m hm => h m (by omega)
theorem snoc {P : Nat → Prop} {i : Nat} (h : ∀ m, m < i → P m) (hi : P i) : ∀ m, m < i + 1 → P m := fun m hm => by
  by_cases e : m = i
  · exact e ▸ hi
  · exact h m (by omega)
def aSpl (p : P11) : Int := splN (kf p) (nf p) 11
theorem spl_conv {p : P11} (h : p.ok) {i : Nat} (hk : (kf p i == 2) = true) : max (splN (kf p) (nf p) i) (opI .add .i64 (IntKind.i64.wrap (nf p i)) 1) = splN (kf p) (nf p) (i + 1) := by
  have hn := nf_rng h i
  have e : IntKind.i64.wrap (nf p i) = nf p i := by rw [w_i64]; omega
  have e2 : opI .add .i64 (nf p i) 1 = nf p i + 1 := by
    show IntKind.i64.wrap (nf p i + 1) = _
    rw [w_i64]; omega
  rw [e, e2, splN, if_pos (eqI hk)]
theorem spl_skip {p : P11} {i : Nat} (hk : (kf p i == 2) = false) : splN (kf p) (nf p) i = splN (kf p) (nf p) (i + 1) := by
  rw [splN, if_neg (neI hk)]
def badPl (p : P11) (s : Row) : Prop := kf p (rg s).toNat = 0 ∨ (kf p (rg s).toNat = 1 ∧ aMay1 (kf p (rg s).toNat) (nf p (rg s).toNat) (ov s) = false)
instance (p : P11) (s : Row) : Decidable (badPl p s) := by unfold badPl; infer_instance
def clash (p : P11) (s o : Row) : Prop := (kf p (rg o).toNat = kf p (rg s).toNat ∧ nf p (rg o).toNat = nf p (rg s).toNat) ∧ fr o ≤ tt s ∧ fr s ≤ tt o
instance (p : P11) (s o : Row) : Decidable (clash p s o) := by unfold clash; infer_instance
def okC (l : List Row) (p : P11) (i : Nat) : Prop := ¬ badPl p (l.getD i []) ∧ ∀ m, m < i → ¬ clash p (l.getD i []) (l.getD m [])
instance (l : List Row) (p : P11) (i : Nat) : Decidable (okC l p i) := by unfold okC; infer_instance
def aChk (l : List Row) (p : P11) : Bool := aRight l && (aMayA p && decide (∀ i, i < l.length → okC l p i))
theorem aChk_0 {l : List Row} {p : P11} (h : aRight l = false) : aChk l p = false := by unfold aChk; rw [h]; rfl
theorem aChk_1 {l : List Row} {p : P11} (h : aMayA p = false) : aChk l p = false := by unfold aChk; rw [h, Bool.false_and, Bool.and_false]
theorem aChk_n {l : List Row} {p : P11} {i : Nat} (hi : i < l.length) (h : ¬ okC l p i) : aChk l p = false := by
  unfold aChk; rw [show decide (∀ i, i < l.length → okC l p i) = false from decide_eq_false fun q => h (q i hi), Bool.and_false, Bool.and_false]
theorem aChk_y {l : List Row} {p : P11} {i : Nat} (h1 : aRight l = true) (h2 : aMayA p = true) (hi : ¬ i < l.length) (h : ∀ m, m < i → okC l p m) : aChk l p = true := by
  unfold aChk; rw [h1, h2, show decide (∀ i, i < l.length → okC l p i) = true from decide_eq_true fun m hm => h m (by omega)]; rfl

/-! ### What Run gives -/
theorem kf_run {l : List Row} (h : aRight l = true) (i : Nat) : kf (aRun l).1 i = pk l i := by
  rw [aRun_y h]; exact kf_p11 (runA_inv (aR_u h)).k i
theorem nf_run {l : List Row} (h : aRight l = true) (i : Nat) : nf (aRun l).1 i = pn l i := by
  rw [aRun_y h]; exact nf_p11 (by rw [numb_len]; exact (runA_inv (aR_u h)).n) i
theorem homes_sub {o : Bool} {n : Int} (h : n ∈ homesL o) : n ∈ homesL false := by
  cases o
  · exact h
  · revert n; decide
theorem okPl_run {l : List Row} (h : aRight l = true) {i : Nat} (hi : i < 11) : okPl (kf (aRun l).1 i) (nf (aRun l).1 i) := by
  rw [kf_run h, nf_run h]
  have hR := aR_u h
  by_cases hz : ∀ s ∈ l, (rg s).toNat ≠ i
  · exact .inl (place_none hR hi hz)
  · rw [Classical.not_forall] at hz
    obtain ⟨s, hz⟩ := hz
    rw [Classical.not_imp, Classical.not_not] at hz
    obtain ⟨hs, rfl⟩ := hz
    rcases place_of hR hs with ⟨h1, h2⟩ | h1
    · exact .inr (.inl ((aMay1_iff _ _ _).2 ⟨h1, homes_sub h2⟩))
    · exact .inr (.inr h1)
theorem aMayA_run {l : List Row} (h : aRight l = true) : aMayA (aRun l).1 = true := decide_eq_true fun i hi => okPl_run h hi
theorem okC_run {l : List Row} (h : aRight l = true) {i : Nat} (hi : i < l.length) : okC l (aRun l).1 i := by
  have hR := aR_u h
  have hs := getD_mem hi
  refine ⟨fun hb => ?_, fun m hm hc => ?_⟩
  · unfold badPl at hb
    rw [kf_run h, nf_run h] at hb
    rcases place_of hR hs with ⟨h1, h2⟩ | ⟨h1, h2⟩
    · rw [h1] at hb
      rcases hb with hb | hb
      · cases hb
      · rw [(aMay1_iff _ _ _).2 ⟨rfl, h2⟩] at hb; exact Bool.noConfusion hb.2
    · rw [h1] at hb
      rcases hb with hb | hb
      · cases hb
      · exact absurd hb.1 (by decide)
  · unfold clash at hc
    rw [kf_run h, kf_run h, nf_run h, nf_run h] at hc
    have hm' : m < l.length := by omega
    have hne : l.getD i [] ≠ l.getD m [] := fun e => (hR i hi).2 m hm (by rw [e])
    have := place_apart hR hs (getD_mem hm') hne hc.1.1.symm hc.1.2.symm
    omega
theorem aChk_run {l : List Row} (h : aRight l = true) : aChk l (aRun l).1 = true := by
  unfold aChk
  rw [h, aMayA_run h, show decide (∀ i, i < l.length → okC l (aRun l).1 i) = true from decide_eq_true fun i hi => okC_run h hi]; rfl
theorem aSpl_run {l : List Row} (h : aRight l = true) : aSpl (aRun l).1 ≤ 11 := by
  refine (spl_le 11 fun r hr h2 => ?_).2
  rcases okPl_run h hr with h1 | h1 | h1
  · omega
  · have := ((aMay1_iff _ _ _).1 h1).1; omega
  · exact h1.2
theorem aSpl_few {l : List Row} (h : aRight l = true) (hf : ¬ ((overL l = true ∧ 2 < mostN l l.length) ∨ 6 < mostN l l.length)) : aSpl (aRun l).1 = 0 :=
  spl_none 11 fun r hr => by rw [kf_run h]; exact pk_few (aR_u h) hf hr
theorem aRun_perm {l m : List Row} (hp : l.Perm m) : aRun l = aRun m := by
  have e := aRight_perm hp
  cases h : aRight l with
  | false => rw [aRun_n h, aRun_n (e ▸ h)]
  | true =>
    rw [aRun_y h, aRun_y (e ▸ h)]
    have hR := aR_u h
    have : runA l = runA m := by unfold runA; rw [srt_turn hp (fun a ha b hb => hR.inj ha hb)]
    rw [this]
theorem aRun_ok {l : List Row} : (aRun l).2 = 0 ↔ aRight l = true := by
  cases h : aRight l with
  | false => rw [aRun_n h]; exact ⟨fun q => absurd q (by decide), fun q => Bool.noConfusion q⟩
  | true => rw [aRun_y h]; exact ⟨fun _ => rfl, fun _ => rfl⟩
theorem aRun_wakes : aRun [[1, 0, 5, 0], [2, 6, 9, 0]] = (⟨0, 0, 1, 3, 1, 3, 0, 0, 0, 0, 0, 0, 0, 0, 0, 0, 0, 0, 0, 0, 0, 0⟩, 0) := by rfl
end Go.Proofs.Ytoaffiooliclgaa
