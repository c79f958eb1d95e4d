/- Runs with more fuel, with other answers behind. No walk is in here. -/
import Derived.Test.YtghiofgomcihcaaMoE
set_option linter.unusedSimpArgs false
set_option linter.unusedVariables false
set_option linter.unusedVariables false
set_option linter.unusedSimpArgs false
namespace Go.Proofs.Ytghiofgomcihcaa
open Go Go.RowKit

/-- What is told of a state's events and answers. -/
structure TrOk (an : List (List Int)) (m : Ms) : Prop where
  an_ : m.an = an.drop m.tr.length
  le : m.tr.length ≤ an.length
  rl : m.rg.length = 11
  ev : ∀ i : Nat, i < m.tr.length → gt m.tr (i : Int) 1 = gt an (i : Int) 0 ∧ 0 ≤ gt m.tr (i : Int) 0 ∧ gt m.tr (i : Int) 0 < 16 ∧ gt m.tr (i : Int) 2 = iargs (gt m.tr (i : Int) 0)
theorem gt_snoc_lt {l : List (List Int)} {r : List Int} {i : Nat} (h : i < l.length) (c : Nat) : gt (l ++ [r]) (i : Int) c = gt l (i : Int) c := by
  unfold gt
  rw [Int.toNat_natCast, List.getD_eq_getElem?_getD (l := l ++ [r]), List.getD_eq_getElem?_getD (l := l), List.getElem?_append_left h]
theorem gt_snoc {l : List (List Int)} {r : List Int} (c : Nat) : gt (l ++ [r]) (l.length : Int) c = r.getD c 0 := by
  unfold gt
  rw [Int.toNat_natCast, List.getD_eq_getElem?_getD (l := l ++ [r]), List.getElem?_append_right (Nat.le_refl _), Nat.sub_self]; rfl
theorem gt_drop0 (l : List (List Int)) (t : Nat) : gt (l.drop t) 0 0 = gt l (t : Int) 0 := by
  unfold gt
  rw [Int.toNat_natCast, List.getD_eq_getElem?_getD (l := l.drop t), List.getD_eq_getElem?_getD (l := l), List.getElem?_drop]; rfl
theorem imay_call {x : Ins} (h : imay x = true) (hk : x.k = 5) : 0 ≤ x.imm ∧ x.imm ≤ 15 := by
  unfold imay ibare at h
  simp [hk] at h
  exact h.2.1
theorem argR_len {rg : List Int} (h : rg.length = 11) (n : Int) (h0 : 0 ≤ n) (h5 : n ≤ 5) : ((argR rg n).length : Int) = n := by
  unfold argR
  rw [show opI .add .i64 1 n = 1 + n from wrI (by omega) (by omega), List.length_drop, List.length_take, List.length_map, h]
  show ((min (1 + n).toNat 11 - 1 : Nat) : Int) = n
  omega
theorem TrOk.nxt {p : Prog} {an : List (List Int)} {m : Ms} (h : TrOk an m) (hm : imay (insAt p.l m.pc) = true) (hh : halt p m = 0) : TrOk an (nxt p m) ∧ m.tr <+: (nxt p m).tr := by
  by_cases hk : (insAt p.l m.pc).k = 5
  · have hne : m.an.length ≠ 0 := fun h0 => by
      unfold halt haltX at hh
      split at hh
      · cases hh
      · simp [hk, h0] at hh
    have hlt : m.tr.length < an.length := by
      rw [h.an_, List.length_drop] at hne; omega
    rw [nxt_5 hk]
    have hz := iargs_bd (insAt p.l m.pc).imm
    have hi := imay_call hm hk
    refine ⟨⟨?_, ?_, ?_, ?_⟩, ⟨_, rfl⟩⟩
    · show m.an.drop 1 = an.drop (m.tr ++ [_]).length
      rw [h.an_, List.drop_drop, List.length_append]; rfl
    · show (m.tr ++ [_]).length ≤ _
      rw [List.length_append]; exact hlt
    · show (_ ++ m.rg.drop 6).length = 11
      rw [List.length_append, List.length_drop, h.rl]; rfl
    · intro i hi2
      have hi2 : i < m.tr.length + 1 := by
        have : i < (m.tr ++ [evRow m.rg (insAt p.l m.pc).imm (gt m.an 0 0) (iargs (insAt p.l m.pc).imm)]).length := hi2
        rwa [List.length_append] at this
      show gt (m.tr ++ [evRow m.rg (insAt p.l m.pc).imm (gt m.an 0 0) (iargs (insAt p.l m.pc).imm)]) _ 1 = _ ∧ 0 ≤ gt (m.tr ++ [evRow m.rg (insAt p.l m.pc).imm (gt m.an 0 0) (iargs (insAt p.l m.pc).imm)]) _ 0 ∧ gt (m.tr ++ [evRow m.rg (insAt p.l m.pc).imm (gt m.an 0 0) (iargs (insAt p.l m.pc).imm)]) _ 0 < 16 ∧ gt (m.tr ++ [evRow m.rg (insAt p.l m.pc).imm (gt m.an 0 0) (iargs (insAt p.l m.pc).imm)]) _ 2 = iargs (gt (m.tr ++ [evRow m.rg (insAt p.l m.pc).imm (gt m.an 0 0) (iargs (insAt p.l m.pc).imm)]) _ 0)
      rcases Nat.lt_succ_iff_lt_or_eq.1 hi2 with h1 | rfl
      · simp only [gt_snoc_lt h1]; exact h.ev i h1
      · simp only [gt_snoc]
        refine ⟨?_, hi.1, ?_, ?_⟩
        · show gt m.an 0 0 = _
          rw [h.an_, gt_drop0]
        · show (insAt p.l m.pc).imm < 16
          omega
        · show IntKind.i64.wrap ((argR m.rg (iargs (insAt p.l m.pc).imm)).length : Int) = iargs (insAt p.l m.pc).imm
          rw [argR_len h.rl _ hz.1 hz.2]
          exact wrI (by omega) (by omega)
  · have e : (Go.Proofs.Ytghiofgomcihcaa.nxt p m).an = m.an ∧ (Go.Proofs.Ytghiofgomcihcaa.nxt p m).tr = m.tr ∧ (Go.Proofs.Ytghiofgomcihcaa.nxt p m).rg.length = m.rg.length := by
      unfold Go.Proofs.Ytghiofgomcihcaa.nxt bodyX
      by_cases h0 : (insAt p.l m.pc).k = 0
      · rw [if_pos h0]; exact ⟨rfl, rfl, List.length_set⟩
      · rw [if_neg h0]
        by_cases h1 : (insAt p.l m.pc).k = 1
        · rw [if_pos h1]; exact ⟨rfl, rfl, List.length_set⟩
        · rw [if_neg h1]
          by_cases h2 : (insAt p.l m.pc).k = 2
          · rw [if_pos h2]; exact ⟨rfl, rfl, rfl⟩
          · rw [if_neg h2, if_neg hk]; exact ⟨rfl, rfl, rfl⟩
    exact ⟨⟨by rw [e.1, e.2.1]; exact h.an_, by rw [e.2.1]; exact h.le, by rw [e.2.2]; exact h.rl, by rw [e.2.1]; exact h.ev⟩, by rw [e.2.1]; exact List.prefix_refl _⟩
theorem TrOk.init (cx an : List (List Int)) : TrOk an (ms0 cx an) := ⟨rfl, Nat.zero_le _, rfl, fun i hi => absurd hi (Nat.not_lt_zero _)⟩
/-- What is told of where a run ends. -/
theorem exec_told {p : Prog} {an : List (List Int)} (hp : p.l.length ≤ maxLen) (hok : (icheck p).2 = 0) : ∀ (f : Nat) (m : Ms), 0 ≤ m.pc → m.pc < (p.l.length : Int) → TrOk an m →
    TrOk an (exec p f m).2.2 ∧ m.tr <+: (exec p f m).2.2.tr ∧ ((exec p f m).1 = 0 → (exec p f m).2.1 = 0) ∧ (0 ≤ (exec p f m).2.1 ∧ (exec p f m).2.1 ≤ f) ∧ ((exec p f m).1 = 2 → (exec p f m).2.2.an = [])
  | 0, m, _, _, h => ⟨h, List.prefix_refl _, fun _ => rfl, ⟨Int.le_refl _, Int.le_refl _⟩, fun h => (by cases h)⟩
  | f + 1, m, h0, h1, h => by
    unfold exec
    by_cases hh : halt p m = 0
    · rw [if_pos hh]
      obtain ⟨q1, q2⟩ := pc_in hp hok h0 h1 hh
      obtain ⟨t1, t2⟩ := h.nxt (may_at hp hok h0 h1) hh
      obtain ⟨r1, r2, r3, r4, r5⟩ := exec_told hp hok f (Go.Proofs.Ytghiofgomcihcaa.nxt p m) q1 q2 t1
      exact ⟨r1, t2.trans r2, r3, ⟨r4.1, by omega⟩, r5⟩
    · rw [if_neg hh]
      refine ⟨h, List.prefix_refl _, fun h => absurd h hh, ⟨Int.natCast_nonneg _, by show (f : Int) ≤ ((f + 1 : Nat) : Int); omega⟩, fun h2 => ?_⟩
      have h2 : halt p m = 2 := h2
      show m.an = []
      unfold halt haltX at h2
      repeat' split at h2
      all_goals first | cases h2 | skip
      exact List.eq_nil_of_length_eq_zero (by assumption)
theorem exec_succ (p : Prog) (f : Nat) (m : Ms) : exec p (f + 1) m = if halt p m = 0 then exec p f (nxt p m) else (halt p m, (f : Int), m) := rfl
theorem exec_add (p : Prog) (g : Nat) : ∀ (f : Nat) (m : Ms), exec p (f + g) m = if (exec p f m).1 = 0 then exec p g (exec p f m).2.2 else ((exec p f m).1, (exec p f m).2.1 + g, (exec p f m).2.2)
  | 0, m => by rw [Nat.zero_add]; rfl
  | f + 1, m => by
    rw [show f + 1 + g = (f + g) + 1 by omega, exec_succ, exec_succ p f m]
    by_cases hh : halt p m = 0
    · rw [if_pos hh, if_pos hh]; exact exec_add p g f _
    · rw [if_neg hh, if_neg hh, if_neg hh]
      show (_, ((f + g : Nat) : Int), _) = (_, (f : Int) + g, _)
      rw [Int.natCast_add]
/-! ### Other answers behind those used -/
def Ms.sw (m : Ms) (A : List (List Int)) : Ms := { m with an := A }
theorem halt_sw {p : Prog} {m : Ms} {A : List (List Int)} (h : (insAt p.l m.pc).k ≠ 5) : halt p (m.sw A) = halt p m := by
  unfold halt haltX
  show (if opI .andNot .i64 (mwants (insAt p.l m.pc)) m.st ≠ 0 then (3 : Int) else if (insAt p.l m.pc).k = 1 then _ else if (insAt p.l m.pc).k = 2 then _ else if (insAt p.l m.pc).k = 5 then _ else _) = (if opI .andNot .i64 (mwants (insAt p.l m.pc)) m.st ≠ 0 then (3 : Int) else if (insAt p.l m.pc).k = 1 then _ else if (insAt p.l m.pc).k = 2 then _ else if (insAt p.l m.pc).k = 5 then _ else _)
  rw [if_neg h, if_neg h]
  rfl
theorem nxt_sw {p : Prog} {m : Ms} {A : List (List Int)} (h : (insAt p.l m.pc).k ≠ 5) : nxt p (m.sw A) = (nxt p m).sw A ∧ (nxt p m).tr = m.tr := by
  unfold nxt bodyX
  by_cases h0 : (insAt p.l m.pc).k = 0
  · rw [if_pos h0, if_pos (show (insAt p.l (m.sw A).pc).k = 0 from h0)]; exact ⟨rfl, rfl⟩
  · rw [if_neg h0, if_neg (show ¬ (insAt p.l (m.sw A).pc).k = 0 from h0)]
    by_cases h1 : (insAt p.l m.pc).k = 1
    · rw [if_pos h1, if_pos (show (insAt p.l (m.sw A).pc).k = 1 from h1)]; exact ⟨rfl, rfl⟩
    · rw [if_neg h1, if_neg (show ¬ (insAt p.l (m.sw A).pc).k = 1 from h1)]
      by_cases h2 : (insAt p.l m.pc).k = 2
      · rw [if_pos h2, if_pos (show (insAt p.l (m.sw A).pc).k = 2 from h2)]; exact ⟨rfl, rfl⟩
      · rw [if_neg h2, if_neg (show ¬ (insAt p.l (m.sw A).pc).k = 2 from h2), if_neg h, if_neg (show ¬ (insAt p.l (m.sw A).pc).k = 5 from h)]; exact ⟨rfl, rfl⟩
theorem exec_sw {p : Prog} {an A : List (List Int)} {u : Nat} (hp : p.l.length ≤ maxLen) (hok : (icheck p).2 = 0) (hA : ∀ t : Nat, t < u → t < A.length ∧ gt A (t : Int) 0 = gt an (t : Int) 0) : ∀ (f : Nat) (m : Ms), 0 ≤ m.pc → m.pc < (p.l.length : Int) → TrOk an m → (exec p f m).1 ≠ 2 → (exec p f m).2.2.tr.length ≤ u →
    exec p f (m.sw (A.drop m.tr.length)) = ((exec p f m).1, (exec p f m).2.1, (exec p f m).2.2.sw (A.drop (exec p f m).2.2.tr.length))
  | 0, m, _, _, _, _, _ => rfl
  | f + 1, m, h0, h1, h, hk2, hu => by
    by_cases hk : (insAt p.l m.pc).k = 5
    · by_cases hw : opI .andNot .i64 (mwants (insAt p.l m.pc)) m.st = 0
      · have hne : m.an.length ≠ 0 := fun hz => by
          apply hk2
          unfold exec
          rw [if_neg (by rw [halt_c2 hw hk hz]; decide), halt_c2 hw hk hz]
        have hh : halt p m = 0 := halt_c0 hw hk hne
        have hex : exec p (f + 1) m = exec p f (nxt p m) := by
          rw [exec, if_pos hh]
        rw [hex] at hk2 hu ⊢
        obtain ⟨q1, q2⟩ := pc_in hp hok h0 h1 hh
        obtain ⟨t1, t2⟩ := h.nxt (may_at hp hok h0 h1) hh
        have hpre := (exec_told hp hok f (nxt p m) q1 q2 t1).2.1.length_le
        have hlen : (nxt p m).tr.length = m.tr.length + 1 := by
          rw [nxt_5 hk]; show (m.tr ++ [_]).length = _; rw [List.length_append]; rfl
        have ht := hA m.tr.length (by omega)
        have hh2 : halt p (m.sw (A.drop m.tr.length)) = 0 := halt_c0 (m := m.sw (A.drop m.tr.length)) hw hk (by show (A.drop m.tr.length).length ≠ 0; rw [List.length_drop]; omega)
        have hn2 : nxt p (m.sw (A.drop m.tr.length)) = (nxt p m).sw (A.drop (nxt p m).tr.length) := by
          rw [hlen, nxt_5 (m := m.sw (A.drop m.tr.length)) hk, nxt_5 hk]
          have e1 : gt (A.drop m.tr.length) 0 0 = gt m.an 0 0 := by rw [gt_drop0, ht.2, h.an_, gt_drop0]
          have e2 : (A.drop m.tr.length).drop (1 : Int).toNat = A.drop (m.tr.length + 1) := by rw [List.drop_drop]; rfl
          unfold Ms.call Ms.sw
          simp only [e1, e2]
        rw [exec, if_pos hh2, hn2]
        exact exec_sw hp hok hA f (nxt p m) q1 q2 t1 hk2 hu
      · have hh : halt p m = 3 := halt_w hw
        have hh2 : halt p (m.sw (A.drop m.tr.length)) = 3 := halt_w (m := m.sw (A.drop m.tr.length)) hw
        rw [exec, exec, if_neg (by rw [hh2]; decide), if_neg (by rw [hh]; decide), hh, hh2]
    · obtain ⟨n1, n2⟩ := nxt_sw (p := p) (A := A.drop m.tr.length) hk
      have hs := halt_sw (p := p) (A := A.drop m.tr.length) hk
      by_cases hh : halt p m = 0
      · have hex : exec p (f + 1) m = exec p f (nxt p m) := by
          rw [exec, if_pos hh]
        rw [hex] at hk2 hu ⊢
        obtain ⟨q1, q2⟩ := pc_in hp hok h0 h1 hh
        obtain ⟨t1, t2⟩ := h.nxt (may_at hp hok h0 h1) hh
        rw [exec, if_pos (hs.trans hh), n1, ← n2]
        exact exec_sw hp hok hA f (nxt p m) q1 q2 t1 hk2 hu
      · rw [exec, exec, if_neg (by rw [hs]; exact hh), if_neg hh, hs]
/-! ### The law -/
def mod1001 (x : Int) : Int := opI .rem .i64 (opI .add .i64 (opI .rem .i64 x 1001) 1001) 1001
theorem mod1001_bd (x : Int) : 0 ≤ mod1001 x ∧ mod1001 x ≤ 1000 := by
  unfold mod1001
  have h1 : -1000 ≤ x.tmod 1001 ∧ x.tmod 1001 ≤ 1000 := by
    have := Int.tmod_lt_of_pos x (b := 1001) (by decide)
    have := Int.lt_tmod_of_pos x (b := 1001) (by decide)
    omega
  show 0 ≤ (opI .add .i64 (x.tmod 1001) 1001).tmod 1001 ∧ _ ≤ (1000 : Int)
  rw [show opI .add .i64 (x.tmod 1001) 1001 = x.tmod 1001 + 1001 from wrI (by omega) (by omega)]
  show 0 ≤ (x.tmod 1001 + 1001).tmod 1001 ∧ (opI .add .i64 (x.tmod 1001) 1001).tmod 1001 ≤ 1000
  rw [show opI .add .i64 (x.tmod 1001) 1001 = x.tmod 1001 + 1001 from wrI (by omega) (by omega), Int.tmod_eq_emod_of_nonneg (by omega)]
  omega
theorem exec_pc {p : Prog} (hp : p.l.length ≤ maxLen) (hok : (icheck p).2 = 0) : ∀ (f : Nat) (m : Ms), 0 ≤ m.pc → m.pc < (p.l.length : Int) → 0 ≤ (exec p f m).2.2.pc ∧ (exec p f m).2.2.pc < (p.l.length : Int)
  | 0, m, h0, h1 => ⟨h0, h1⟩
  | f + 1, m, h0, h1 => by
    unfold exec
    by_cases hh : halt p m = 0
    · rw [if_pos hh]
      obtain ⟨q1, q2⟩ := pc_in hp hok h0 h1 hh
      exact exec_pc hp hok f _ q1 q2
    · rw [if_neg hh]; exact ⟨h0, h1⟩
theorem exec_lr {p : Prog} {cx an : List (List Int)} {f : Nat} (hp : p.l.length ≤ maxLen) (hok : (icheck p).2 = 0) (hz : (exec p f (ms0 cx an)).1 = 0) (hpc : (ms0 cx an).pc < (p.l.length : Int)) (g : Nat) :
    (exec p f (ms0 cx an)).2.2.tr <+: (exec p g (exec p f (ms0 cx an)).2.2).2.2.tr ∧ (exec p g (exec p f (ms0 cx an)).2.2).2.1 ≤ g := by
  have t1 := (exec_told (an := an) hp hok f (ms0 cx an) (Int.le_refl _) hpc (TrOk.init cx an)).1
  obtain ⟨q1, q2⟩ := exec_pc hp hok f (ms0 cx an) (Int.le_refl _) hpc
  obtain ⟨_, r2, _, r4, _⟩ := exec_told (an := an) hp hok g _ q1 q2 t1
  exact ⟨r2, r4.2⟩
theorem elike_left {a b : Out} {z : Int} (h : b = { a with left := z }) : elike a b = true := by
  subst h
  unfold elike
  rw [ebegins_of (List.prefix_refl _)]
  simp
structure MoreLaw (p : Prog) (cx an : List (List Int)) (fu M : Int) (a b : Out) : Prop where
  err : (mrun p cx an (fu + M)).2 = 0
  l0 : 0 ≤ a.left
  l1 : a.left ≤ fu
  used : a.tr.length ≤ an.length
  beg : a.tr <+: b.tr
  ev : ∀ i : Nat, i < a.tr.length → gt a.tr (i : Int) 1 = gt an (i : Int) 0 ∧ 0 ≤ gt a.tr (i : Int) 0 ∧ gt a.tr (i : Int) 0 < 16 ∧ IntKind.i64.wrap ((argsOf a.tr (i : Int)).length : Int) = iargs (gt a.tr (i : Int) 0)
  k0 : a.kind = 0 → a.left = 0 ∧ b.left ≤ M
  k1 : a.kind ≠ 0 → b = { a with left := a.left + M }
  k2 : a.kind = 2 → a.tr.length = an.length
  oth : a.kind ≠ 2 → ∀ ot, mrun p cx (an.take a.tr.length ++ ot) fu = (a, 0)
theorem more_law {p : Prog} {cx an : List (List Int)} {fu M : Int} (hp : p.l.length ≤ maxLen) (h : (mrun p cx an fu).2 = 0) (hM : 0 ≤ M) (hf : fu + M ≤ 10000) : MoreLaw p cx an fu M (mrun p cx an fu).1 (mrun p cx an (fu + M)).1 := by
  obtain ⟨ho, e1⟩ := mrun_ok h
  obtain ⟨hok, hc, h0, h2⟩ := open_y ho
  obtain ⟨⟨_, n1, n64⟩, _, _⟩ := icheck_ok hp hok
  have ho2 : openE p cx (fu + M) = 0 := open_ok hok hc (by omega) hf
  have er2 : (mrun p cx an (fu + M)).2 = 0 := by
    unfold mrun; rw [if_neg (by simp [ho2])]
  obtain ⟨_, e2⟩ := mrun_ok er2
  have hpc : (ms0 cx an).pc < (p.l.length : Int) := by show (0 : Int) < _; omega
  obtain ⟨t1, t2, t3, t4, t5⟩ := exec_told (an := an) hp hok fu.toNat (ms0 cx an) (Int.le_refl _) hpc (TrOk.init cx an)
  have hadd := exec_add p M.toNat fu.toNat (ms0 cx an)
  rw [show fu.toNat + M.toNat = (fu + M).toNat by omega] at hadd
  have hsw := fun (A : List (List Int)) (hA : ∀ t : Nat, t < (exec p fu.toNat (ms0 cx an)).2.2.tr.length → t < A.length ∧ gt A (t : Int) 0 = gt an (t : Int) 0) (hk : (exec p fu.toNat (ms0 cx an)).1 ≠ 2) => exec_sw (an := an) (A := A) hp hok hA fu.toNat (ms0 cx an) (Int.le_refl _) hpc (TrOk.init cx an) hk (Nat.le_refl _)
  have hex2 := fun (hz : (exec p fu.toNat (ms0 cx an)).1 = 0) => exec_lr (an := an) hp hok hz hpc M.toNat
  rw [e1, e2, hadd]
  generalize exec p fu.toNat (ms0 cx an) = R at *
  obtain ⟨k, l, m⟩ := R
  have t3 : k = 0 → l = 0 := t3
  have t4 : 0 ≤ l ∧ l ≤ ((fu.toNat : Nat) : Int) := t4
  have t1 : TrOk an m := t1
  refine ⟨er2, t4.1, by show l ≤ fu; omega, t1.le, ?_, ?_, ?_, ?_, ?_, ?_⟩
  · show m.tr <+: (outOf (if k = 0 then exec p M.toNat m else (k, l + M.toNat, m))).tr
    by_cases hk : k = 0
    · rw [if_pos hk]; exact (hex2 hk).1
    · rw [if_neg hk]; exact List.prefix_refl _
  · intro i hi
    obtain ⟨a1, a2, a3, a4⟩ := t1.ev i hi
    refine ⟨a1, a2, a3, ?_⟩
    show IntKind.i64.wrap ((argsOf m.tr (i : Int)).length : Int) = iargs (gt m.tr (i : Int) 0)
    unfold argsOf
    rw [List.length_take, a4]
    have hz := iargs_bd (gt m.tr (i : Int) 0)
    rw [show ((min (iargs (gt m.tr (i : Int) 0)).toNat (([] : List (List Int)) ++ [[gt m.tr (i : Int) 3]] ++ [[gt m.tr (i : Int) 4]] ++ [[gt m.tr (i : Int) 5]] ++ [[gt m.tr (i : Int) 6]] ++ [[gt m.tr (i : Int) 7]]).length : Nat) : Int) = iargs (gt m.tr (i : Int) 0) by
      show ((min (iargs (gt m.tr (i : Int) 0)).toNat 5 : Nat) : Int) = _
      omega]
    exact wrI (by omega) (by omega)
  · intro hk
    have hk : k = 0 := hk
    refine ⟨t3 hk, ?_⟩
    show (outOf (if k = 0 then exec p M.toNat m else (k, l + M.toNat, m))).left ≤ M
    rw [if_pos hk]
    have h8 : (exec p M.toNat m).2.1 ≤ (M.toNat : Int) := (hex2 hk).2
    show (exec p M.toNat m).2.1 ≤ M
    omega
  · intro hk
    have hk : k ≠ 0 := hk
    show outOf (if k = 0 then exec p M.toNat m else (k, l + M.toNat, m)) = _
    rw [if_neg hk, Int.toNat_of_nonneg hM]; rfl
  · intro hk
    have h5 := t5 hk
    have h5 : m.an = [] := h5
    rw [t1.an_] at h5
    have h6 := congrArg List.length h5
    rw [List.length_drop] at h6
    have h7 : an.length - m.tr.length = 0 := h6
    have := t1.le
    show m.tr.length = an.length
    omega
  · intro hk ot
    have hk : k ≠ 2 := hk
    show mrun p cx (an.take m.tr.length ++ ot) fu = (outOf (k, l, m), 0)
    have hA : ∀ t : Nat, t < m.tr.length → t < (an.take m.tr.length ++ ot).length ∧ gt (an.take m.tr.length ++ ot) (t : Int) 0 = gt an (t : Int) 0 := by
      intro t ht
      have hl : (an.take m.tr.length).length = m.tr.length := by rw [List.length_take]; have := t1.le; omega
      refine ⟨by rw [List.length_append, hl]; omega, ?_⟩
      unfold gt
      rw [Int.toNat_natCast, List.getD_eq_getElem?_getD (l := an.take m.tr.length ++ ot), List.getD_eq_getElem?_getD (l := an), List.getElem?_append_left (by rw [hl]; exact ht), List.getElem?_take_of_lt ht]
    have h9 := hsw _ hA hk
    unfold mrun
    rw [ho]
    show (outOf (exec p fu.toNat (ms0 cx (an.take m.tr.length ++ ot))), (0 : Int)) = _
    have e9 : ms0 cx (an.take m.tr.length ++ ot) = (ms0 cx an).sw ((an.take m.tr.length ++ ot).drop (ms0 cx an).tr.length) := rfl
    rw [e9, h9]
    rfl
end Go.Proofs.Ytghiofgomcihcaa

