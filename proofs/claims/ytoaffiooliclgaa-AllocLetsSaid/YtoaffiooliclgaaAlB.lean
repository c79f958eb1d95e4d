/- Giving spans homes, in plain words: one span after the other, and what holds of the homes. No walk is in here. -/
import Derived.Test.YtoaffiooliclgaaAlA
set_option linter.unusedSimpArgs false
set_option linter.unusedVariables false
set_option linter.unusedVariables false
set_option linter.unusedSimpArgs false
namespace Go.Proofs.Ytoaffiooliclgaa
open Go Go.RowKit

/-! ### Homes that are taken -/
def putR (k n : Int) (s : Row) : List Row → List Row
  | [] => [k :: n :: s]
  | r :: T => if r.take 2 == [k, n] then (k :: n :: s) :: T else r :: putR k n s T
def look (T : List Row) (k n : Int) : Option Row := (T.find? fun r => r.take 2 == [k, n]).map (List.drop 2)
theorem look_nil (k n : Int) : look [] k n = none := rfl
theorem look_put (k n : Int) (s : Row) (k' n' : Int) : ∀ T, look (putR k n s T) k' n' = if k' = k ∧ n' = n then some s else look T k' n'
  | [] => by
    unfold putR look
    by_cases h : k' = k ∧ n' = n
    · obtain ⟨rfl, rfl⟩ := h; simp
    · rw [if_neg h]
      have : ((k :: n :: s).take 2 == [k', n']) = false := by
        simp only [List.take_succ_cons, List.take_zero, beq_eq_false_iff_ne, ne_eq, List.cons.injEq, and_true]
        exact fun e => h ⟨e.1.symm, e.2.symm⟩
      simp only [List.find?_cons, this]; first | rfl | skip
  | r :: T => by
    have ih := look_put k n s k' n' T
    unfold look at ih ⊢
    unfold putR
    by_cases h : k' = k ∧ n' = n
    · obtain ⟨rfl, rfl⟩ := h
      simp only [and_self, if_true] at ih ⊢
      split
      · simp
      · rename_i hr
        have hr' : (r.take 2 == [k', n']) = false := by simpa using hr
        rw [List.find?_cons, hr']; exact ih
    · rw [if_neg h] at ih ⊢
      split
      · rename_i hr
        have e : r.take 2 = [k, n] := by simpa using hr
        have hn : ((k :: n :: s).take 2 == [k', n']) = false := by
          simp only [List.take_succ_cons, List.take_zero, beq_eq_false_iff_ne, ne_eq, List.cons.injEq, and_true]
          exact fun e => h ⟨e.1.symm, e.2.symm⟩
        have hn' : (r.take 2 == [k', n']) = false := by
          rw [e]; simp only [beq_eq_false_iff_ne, ne_eq, List.cons.injEq, and_true]
          exact fun e => h ⟨e.1.symm, e.2.symm⟩
        rw [List.find?_cons, List.find?_cons, hn, hn']
      · rw [List.find?_cons, List.find?_cons]
        cases hq : (r.take 2 == [k', n']) with
        | true => rfl
        | false => exact ih
/-- As the program looks a home up. -/
theorem mix_cons (r : Row) (T : List Row) (k n : Int) : mixI (r :: T) [k, n] = if r.take 2 == [k, n] then 0 else mixI T [k, n] + 1 := by
  unfold mixI
  rw [List.findIdx_cons]
  simp only [List.length_cons, List.length_nil, Nat.zero_add, Nat.reduceAdd]
  cases hq : (r.take 2 == [k, n]) <;> simp
theorem mix_pos (T : List Row) (key : List Int) : 0 ≤ mixI T key := Int.natCast_nonneg _
theorem look_mix (k n : Int) : ∀ T : List Row, (mixI T [k, n] < (T.length : Int) ↔ (look T k n).isSome = true) ∧ ∀ c : Nat, gt T (mixI T [k, n]) (c + 2) = ((look T k n).getD []).getD c 0
  | [] => ⟨by simp [mixI, look], fun c => by simp [gt, look]⟩
  | r :: T => by
    obtain ⟨h1, h2⟩ := look_mix k n T
    have hp := mix_pos T [k, n]
    rw [mix_cons]
    unfold look at h1 h2 ⊢
    rw [List.find?_cons]
    cases hq : (r.take 2 == [k, n]) with
    | true =>
      refine ⟨by simp, fun c => ?_⟩
      simp [gt, List.getD_eq_getElem?_getD, Nat.add_comm]
    | false =>
      simp only [Bool.false_eq_true, if_false, List.length_cons]
      refine ⟨by rw [← h1]; omega, fun c => ?_⟩
      rw [← h2 c]
      unfold gt
      have : (mixI T [k, n] + 1).toNat = (mixI T [k, n]).toNat + 1 := by omega
      rw [this, List.getD_cons_succ]
theorem look_some (T : List Row) (k n : Int) : decide (mixI T [k, n] < (T.length : Int)) = (look T k n).isSome := by
  rw [Bool.eq_iff_iff, decide_eq_true_eq]; exact (look_mix k n T).1
theorem putR_mix (k n : Int) (s : Row) : ∀ T : List Row, (mixI T [k, n] < (T.length : Int) → T.set (mixI T [k, n]).toNat (k :: n :: s) = putR k n s T) ∧ (¬ mixI T [k, n] < (T.length : Int) → T ++ [k :: n :: s] = putR k n s T)
  | [] => ⟨fun h => by simp [mixI] at h, fun _ => rfl⟩
  | r :: T => by
    obtain ⟨h1, h2⟩ := putR_mix k n s T
    have hp := mix_pos T [k, n]
    rw [mix_cons]
    unfold putR
    cases hq : (r.take 2 == [k, n]) with
    | true => exact ⟨fun _ => rfl, fun h => (h (by simp)).elim⟩
    | false =>
      simp only [Bool.false_eq_true, if_false, List.length_cons]
      have : (mixI T [k, n] + 1).toNat = (mixI T [k, n]).toNat + 1 := by omega
      exact ⟨fun h => by rw [this, List.set_cons_succ, h1 (by omega)], fun h => by rw [List.cons_append, h2 (by omega)]⟩
theorem putR_len (k n : Int) (s : Row) : ∀ T : List Row, (putR k n s T).length ≤ T.length + 1
  | [] => by simp [putR]
  | r :: T => by
    have := putR_len k n s T
    unfold putR
    split <;> simp <;> omega

/-! ### One span -/
structure Ast where
  T : List Row
  K : List Int
  N : List Int
def Ast.kd (st : Ast) (s : Row) : Int := st.K.getD (rg s).toNat 0
def Ast.hn (st : Ast) (s : Row) : Int := st.N.getD (rg s).toNat 0
def homesL (o : Bool) : List Int := if o then [3, 9] else [3, 9, 6, 7, 8, 10]
def busyL (T : List Row) (f h : Int) : Bool := match look T 1 h with
  | some o => decide (f ≤ tt o)
  | none => false
def pick (T : List Row) (f : Int) : List Int → Option Int
  | [] => none
  | h :: l => if busyL T f h then pick T f l else some h
def worstR : Row → List Row → Row
  | m, [] => m
  | m, x :: l => worstR (if 0 < aC2 (spR x) (spR m) then x else m) l
theorem worstR_mem : ∀ (l : List Row) (m : Row), worstR m l ∈ m :: l
  | [], m => List.mem_singleton.2 rfl
  | x :: l, m => by
    have := worstR_mem l (if 0 < aC2 (spR x) (spR m) then x else m)
    rw [worstR]
    rcases List.mem_cons.1 this with h | h
    · rw [h]
      split
      · exact List.mem_cons_of_mem _ List.mem_cons_self
      · exact List.mem_cons_self
    · exact List.mem_cons_of_mem _ (List.mem_cons_of_mem _ h)
def wst (T : List Row) (s : Row) : Row := worstR s ((homesL (ov s)).map fun h => (look T 1 h).getD [])
def stepA (st : Ast) (s : Row) : Ast := match pick st.T (fr s) (homesL (ov s)) with
  | some h => ⟨putR 1 h s st.T, st.K.set (rg s).toNat 1, st.N.set (rg s).toNat h⟩
  | none => if wst st.T s = s then ⟨st.T, st.K.set (rg s).toNat 2, st.N.set (rg s).toNat 0⟩
    else ⟨putR (st.kd (wst st.T s)) (st.hn (wst st.T s)) s st.T, (st.K.set (rg s).toNat (st.kd (wst st.T s))).set (rg (wst st.T s)).toNat 2, (st.N.set (rg s).toNat (st.hn (wst st.T s))).set (rg (wst st.T s)).toNat 0⟩
def a0 : Ast := ⟨[], List.replicate 11 0, List.replicate 11 0⟩
def runA (L : List Row) : Ast := (srt L).foldl stepA a0

theorem pick_some {T : List Row} {f h : Int} : ∀ {l : List Int}, pick T f l = some h → h ∈ l ∧ busyL T f h = false
  | x :: l, hp => by
    unfold pick at hp
    split at hp
    · have := pick_some hp
      exact ⟨List.mem_cons_of_mem _ this.1, this.2⟩
    · rename_i hb
      cases hp
      exact ⟨List.mem_cons_self, by simpa using hb⟩
theorem pick_none {T : List Row} {f : Int} : ∀ {l : List Int}, pick T f l = none → ∀ h ∈ l, busyL T f h = true
  | [], _, h, hh => by cases hh
  | x :: l, hp, h, hh => by
    unfold pick at hp
    split at hp
    · rename_i hb
      rcases List.mem_cons.1 hh with rfl | hh
      · exact hb
      · exact pick_none hp h hh
    · cases hp
theorem busy_some {T : List Row} {f h : Int} (hb : busyL T f h = true) : ∃ o, look T 1 h = some o ∧ f ≤ tt o := by
  unfold busyL at hb
  split at hb
  · rename_i o ho; exact ⟨o, ho, of_decide_eq_true hb⟩
  · cases hb
theorem busy_not {T : List Row} {f h : Int} (hb : busyL T f h = false) {o : Row} (ho : look T 1 h = some o) : tt o < f := by
  unfold busyL at hb
  rw [ho] at hb
  have := of_decide_eq_false hb
  omega
theorem getD_set {L : List Int} {i j : Nat} {x : Int} (h : i < L.length) : (L.set i x).getD j 0 = if i = j then x else L.getD j 0 := by
  rw [List.getD_eq_getElem?_getD, List.getElem?_set, List.getD_eq_getElem?_getD]
  split
  · rename_i e; subst e; simp [h]
  · rfl

theorem getD_set2 {L : List Int} {i i' j : Nat} {x x' : Int} (h : i < L.length) (h' : i' < L.length) : ((L.set i x).set i' x').getD j 0 = if i' = j then x' else if i = j then x else L.getD j 0 := by
  rw [getD_set (by rw [List.length_set]; exact h'), getD_set h]
/-- What holds of the homes when some spans have theirs. -/
structure AInv (S : List Row) (st : Ast) : Prop where
  k : st.K.length = 11
  n : st.N.length = 11
  zero : ∀ r, r < 11 → (∀ s ∈ S, (rg s).toNat ≠ r) → st.K.getD r 0 = 0 ∧ st.N.getD r 0 = 0
  has : ∀ s ∈ S, (st.kd s = 1 ∧ st.hn s ∈ homesL (ov s)) ∨ (st.kd s = 2 ∧ st.hn s = 0)
  last : ∀ s ∈ S, st.kd s = 1 → ∃ t ∈ S, look st.T 1 (st.hn s) = some t ∧ st.kd t = 1 ∧ st.hn t = st.hn s ∧ (s = t ∨ tt s < fr t)
  look : ∀ h t, look st.T 1 h = some t → t ∈ S ∧ st.kd t = 1 ∧ st.hn t = h
  dis : ∀ s ∈ S, ∀ t ∈ S, s ≠ t → st.kd s = 1 → st.kd t = 1 → st.hn s = st.hn t → tt s < fr t ∨ tt t < fr s
theorem AInv.zero' : AInv [] a0 where
  k := rfl
  n := rfl
  zero r hr _ := by
    unfold a0
    simp only [List.getD_eq_getElem?_getD, List.getElem?_replicate]
    split <;> exact ⟨rfl, rfl⟩
  has s hs := by cases hs
  last s hs := by cases hs
  look h t ht := by cases ht
  dis s hs := by cases hs

theorem AInv.step {S : List Row} {st : Ast} {s : Row} (h : AInv S st) (hs : okS s) (hS : ∀ t ∈ S, okS t ∧ rg t ≠ rg s ∧ fr t ≤ fr s) (hd : ∀ a ∈ S, ∀ b ∈ S, rg a = rg b → a = b) : AInv (S ++ [s]) (stepA st s) := by
  have hlt : ∀ {t : Row}, okS t → (rg t).toNat < 11 := fun {t} ht => by have := ht.1; omega
  have hneS : ∀ t ∈ S, t ≠ s := fun t ht e => (hS t ht).2.1 (by rw [e])
  have hreg : ∀ {a b : Row}, okS a → okS b → rg a ≠ rg b → (rg a).toNat ≠ (rg b).toNat := fun {a b} ha hb e => by have := ha.1; have := hb.1; omega
  have hkl := h.k
  have hnl := h.n
  have hsl := hlt hs
  unfold stepA
  split
  · -- a home is free
    rename_i hh hp
    obtain ⟨hmem, hfree⟩ := pick_some hp
    have kS : ∀ t ∈ S, (Ast.mk (putR 1 hh s st.T) (st.K.set (rg s).toNat 1) (st.N.set (rg s).toNat hh)).kd t = st.kd t ∧ (Ast.mk (putR 1 hh s st.T) (st.K.set (rg s).toNat 1) (st.N.set (rg s).toNat hh)).hn t = st.hn t := fun t ht => by
      have hne := hreg hs (hS t ht).1 (fun e => (hS t ht).2.1 e.symm)
      unfold Ast.kd Ast.hn
      dsimp only
      rw [getD_set (by omega), getD_set (by omega), if_neg hne, if_neg hne]
      exact ⟨rfl, rfl⟩
    have ks : (Ast.mk (putR 1 hh s st.T) (st.K.set (rg s).toNat 1) (st.N.set (rg s).toNat hh)).kd s = 1 ∧ (Ast.mk (putR 1 hh s st.T) (st.K.set (rg s).toNat 1) (st.N.set (rg s).toNat hh)).hn s = hh := by
      unfold Ast.kd Ast.hn
      dsimp only
      rw [getD_set (by omega), getD_set (by omega), if_pos rfl, if_pos rfl]
      exact ⟨rfl, rfl⟩
    have before : ∀ t ∈ S, st.kd t = 1 → st.hn t = hh → tt t < fr s := fun t ht h1 h2 => by
      obtain ⟨t0, a1, a2, a3, a4, a5⟩ := h.last t ht h1
      rw [h2] at a2
      have h3 := busy_not hfree a2
      rcases a5 with rfl | a5
      · exact h3
      · have := (hS t0 a1).1.2; omega
    generalize he : Ast.mk (putR 1 hh s st.T) (st.K.set (rg s).toNat 1) (st.N.set (rg s).toNat hh) = st' at *
    have hT : st'.T = putR 1 hh s st.T := by rw [← he]
    have hl : ∀ h', Go.Proofs.Ytoaffiooliclgaa.look st'.T 1 h' = if h' = hh then some s else Go.Proofs.Ytoaffiooliclgaa.look st.T 1 h' := fun h' => by
      rw [hT, look_put]; simp
    refine ⟨by rw [← he]; simpa using hkl, by rw [← he]; simpa using hnl, fun r hr hz => ?_, fun t ht => ?_, fun t ht h1 => ?_, fun h' t ht => ?_, fun t ht t' ht' hne h1 h1' h2 => ?_⟩
    · have hz' := h.zero r hr (fun t ht => hz t (List.mem_append_left _ ht))
      have hr' := hz s (List.mem_append_right _ (List.mem_singleton.2 rfl))
      rw [← he]
      dsimp only
      rw [getD_set (by omega), getD_set (by omega), if_neg hr', if_neg hr']
      exact hz'
    · rcases List.mem_append.1 ht with ht | ht
      · rw [(kS t ht).1, (kS t ht).2]; exact h.has t ht
      · rw [List.mem_singleton.1 ht, ks.1, ks.2]; exact .inl ⟨rfl, hmem⟩
    · rcases List.mem_append.1 ht with ht | ht
      · rw [(kS t ht).1] at h1
        rw [(kS t ht).2, hl]
        split
        · rename_i e
          exact ⟨s, List.mem_append_right _ (List.mem_singleton.2 rfl), rfl, ks.1, by rw [ks.2, e], .inr (before t ht h1 e)⟩
        · obtain ⟨t0, a1, a2, a3, a4, a5⟩ := h.last t ht h1
          exact ⟨t0, List.mem_append_left _ a1, a2, by rw [(kS t0 a1).1]; exact a3, by rw [(kS t0 a1).2]; exact a4, a5⟩
      · rw [List.mem_singleton.1 ht, ks.2, hl, if_pos rfl]
        exact ⟨s, List.mem_append_right _ (List.mem_singleton.2 rfl), rfl, ks.1, ks.2, .inl rfl⟩
    · rw [hl] at ht
      split at ht
      · rename_i e
        cases ht
        exact ⟨List.mem_append_right _ (List.mem_singleton.2 rfl), ks.1, by rw [ks.2, e]⟩
      · obtain ⟨a1, a2, a3⟩ := h.look h' t ht
        exact ⟨List.mem_append_left _ a1, by rw [(kS t a1).1]; exact a2, by rw [(kS t a1).2]; exact a3⟩
    · rcases List.mem_append.1 ht with ht | ht <;> rcases List.mem_append.1 ht' with ht' | ht'
      · rw [(kS t ht).1] at h1; rw [(kS t' ht').1] at h1'; rw [(kS t ht).2, (kS t' ht').2] at h2
        exact h.dis t ht t' ht' hne h1 h1' h2
      · rw [List.mem_singleton.1 ht'] at h2 ⊢
        rw [(kS t ht).1] at h1; rw [(kS t ht).2, ks.2] at h2
        exact .inl (before t ht h1 h2)
      · rw [List.mem_singleton.1 ht] at h2 ⊢
        rw [(kS t' ht').1] at h1'; rw [(kS t' ht').2, ks.2] at h2
        exact .inr (before t' ht' h1' h2.symm)
      · exact absurd ((List.mem_singleton.1 ht).trans (List.mem_singleton.1 ht').symm) hne
  · -- all homes are busy
    rename_i hp
    have hbusy := pick_none hp
    split
    · -- the span itself spills
      have kS : ∀ t ∈ S, (Ast.mk st.T (st.K.set (rg s).toNat 2) (st.N.set (rg s).toNat 0)).kd t = st.kd t ∧ (Ast.mk st.T (st.K.set (rg s).toNat 2) (st.N.set (rg s).toNat 0)).hn t = st.hn t := fun t ht => by
        have hne := hreg hs (hS t ht).1 (fun e => (hS t ht).2.1 e.symm)
        unfold Ast.kd Ast.hn
        dsimp only
        rw [getD_set (by omega), getD_set (by omega), if_neg hne, if_neg hne]
        exact ⟨rfl, rfl⟩
      have ks : (Ast.mk st.T (st.K.set (rg s).toNat 2) (st.N.set (rg s).toNat 0)).kd s = 2 ∧ (Ast.mk st.T (st.K.set (rg s).toNat 2) (st.N.set (rg s).toNat 0)).hn s = 0 := by
        unfold Ast.kd Ast.hn
        dsimp only
        rw [getD_set (by omega), getD_set (by omega), if_pos rfl, if_pos rfl]
        exact ⟨rfl, rfl⟩
      generalize he : Ast.mk st.T (st.K.set (rg s).toNat 2) (st.N.set (rg s).toNat 0) = st' at *
      have hT : st'.T = st.T := by rw [← he]
      refine ⟨by rw [← he]; simpa using hkl, by rw [← he]; simpa using hnl, fun r hr hz => ?_, fun t ht => ?_, fun t ht h1 => ?_, fun h' t ht => ?_, fun t ht t' ht' hne h1 h1' h2 => ?_⟩
      · have hz' := h.zero r hr (fun t ht => hz t (List.mem_append_left _ ht))
        have hr' := hz s (List.mem_append_right _ (List.mem_singleton.2 rfl))
        rw [← he]
        dsimp only
        rw [getD_set (by omega), getD_set (by omega), if_neg hr', if_neg hr']
        exact hz'
      · rcases List.mem_append.1 ht with ht | ht
        · rw [(kS t ht).1, (kS t ht).2]; exact h.has t ht
        · rw [List.mem_singleton.1 ht, ks.1, ks.2]; exact .inr ⟨rfl, rfl⟩
      · rcases List.mem_append.1 ht with ht | ht
        · rw [(kS t ht).1] at h1
          rw [(kS t ht).2, hT]
          obtain ⟨t0, a1, a2, a3, a4, a5⟩ := h.last t ht h1
          exact ⟨t0, List.mem_append_left _ a1, a2, by rw [(kS t0 a1).1]; exact a3, by rw [(kS t0 a1).2]; exact a4, a5⟩
        · rw [List.mem_singleton.1 ht, ks.1] at h1; omega
      · rw [hT] at ht
        obtain ⟨a1, a2, a3⟩ := h.look h' t ht
        exact ⟨List.mem_append_left _ a1, by rw [(kS t a1).1]; exact a2, by rw [(kS t a1).2]; exact a3⟩
      · rcases List.mem_append.1 ht with ht | ht <;> rcases List.mem_append.1 ht' with ht' | ht'
        · rw [(kS t ht).1] at h1; rw [(kS t' ht').1] at h1'; rw [(kS t ht).2, (kS t' ht').2] at h2
          exact h.dis t ht t' ht' hne h1 h1' h2
        · rw [List.mem_singleton.1 ht', ks.1] at h1'; omega
        · rw [List.mem_singleton.1 ht, ks.1] at h1; omega
        · rw [List.mem_singleton.1 ht, ks.1] at h1; omega
    · -- another one spills, and its home is the span's
      rename_i hne0
      obtain ⟨o, ho⟩ : ∃ o, o = wst st.T s := ⟨_, rfl⟩
      rw [← ho] at hne0 ⊢
      have hmem := worstR_mem ((homesL (ov s)).map fun h => (Go.Proofs.Ytoaffiooliclgaa.look st.T 1 h).getD []) s
      rw [show worstR s ((homesL (ov s)).map fun h => (Go.Proofs.Ytoaffiooliclgaa.look st.T 1 h).getD []) = o from ho.symm] at hmem
      rcases List.mem_cons.1 hmem with hmem | hmem
      · exact absurd hmem hne0
      obtain ⟨hh, hh1, hh2⟩ := List.mem_map.1 hmem
      obtain ⟨o', ho', hto⟩ := busy_some (hbusy hh hh1)
      rw [ho'] at hh2
      obtain rfl : o' = o := hh2
      obtain ⟨oS, ok1, oh⟩ := h.look hh o' ho'
      have oO := (hS o' oS).1
      have ol := hlt oO
      rw [ok1, oh]
      have hos : (rg s).toNat ≠ (rg o').toNat := hreg hs oO (fun e => (hS o' oS).2.1 e.symm)
      obtain ⟨st', he⟩ : ∃ st', Ast.mk (putR 1 hh s st.T) ((st.K.set (rg s).toNat 1).set (rg o').toNat 2) ((st.N.set (rg s).toNat hh).set (rg o').toNat 0) = st' := ⟨_, rfl⟩
      have hd' : ∀ t ∈ S, t ≠ o' → (rg o').toNat ≠ (rg t).toNat := fun t ht hne => hreg oO (hS t ht).1 (fun e => hne (hd t ht o' oS e.symm))
      have kS : ∀ t ∈ S, t ≠ o' → st'.kd t = st.kd t ∧ st'.hn t = st.hn t := fun t ht hto' => by
        have hne := hreg hs (hS t ht).1 (fun e => (hS t ht).2.1 e.symm)
        have hne2 := hd' t ht hto'
        rw [← he]
        unfold Ast.kd Ast.hn
        dsimp only
        rw [getD_set2 (by omega) (by omega), getD_set2 (by omega) (by omega), if_neg hne2, if_neg hne, if_neg hne2, if_neg hne]
        exact ⟨rfl, rfl⟩
      have ks : st'.kd s = 1 ∧ st'.hn s = hh := by
        rw [← he]
        unfold Ast.kd Ast.hn
        dsimp only
        rw [getD_set2 (by omega) (by omega), getD_set2 (by omega) (by omega), if_neg (Ne.symm hos), if_pos rfl, if_neg (Ne.symm hos), if_pos rfl]
        exact ⟨rfl, rfl⟩
      have ko : st'.kd o' = 2 ∧ st'.hn o' = 0 := by
        rw [← he]
        unfold Ast.kd Ast.hn
        dsimp only
        rw [getD_set2 (by omega) (by omega), getD_set2 (by omega) (by omega), if_pos rfl, if_pos rfl]
        exact ⟨rfl, rfl⟩
      have before : ∀ t ∈ S, t ≠ o' → st.kd t = 1 → st.hn t = hh → tt t < fr s := fun t ht hto h1 h2 => by
        obtain ⟨t0, a1, a2, a3, a4, a5⟩ := h.last t ht h1
        rw [h2, ho'] at a2
        cases a2
        rcases a5 with e | a5
        · exact absurd e hto
        · have := (hS o' oS).2.2; omega
      have hkl' : st'.K.length = 11 := by rw [← he]; simpa using hkl
      have hnl' : st'.N.length = 11 := by rw [← he]; simpa using hnl
      have hz0 : ∀ r, r < 11 → (rg s).toNat ≠ r → (rg o').toNat ≠ r → st'.K.getD r 0 = st.K.getD r 0 ∧ st'.N.getD r 0 = st.N.getD r 0 := fun r hr h1 h2 => by
        rw [← he]
        dsimp only
        rw [getD_set2 (by omega) (by omega), getD_set2 (by omega) (by omega), if_neg h2, if_neg h1, if_neg h2, if_neg h1]
        exact ⟨rfl, rfl⟩
      have hl : ∀ h', Go.Proofs.Ytoaffiooliclgaa.look st'.T 1 h' = if h' = hh then some s else Go.Proofs.Ytoaffiooliclgaa.look st.T 1 h' := fun h' => by
        rw [← he, look_put]; simp
      have hsm : s ∈ S ++ [s] := List.mem_append_right _ (List.mem_singleton.2 rfl)
      rw [he]
      refine ⟨hkl', hnl', fun r hr hz => ?_, fun t ht => ?_, fun t ht h1 => ?_, fun h' t ht => ?_, fun t ht t' ht' hne h1 h1' h2 => ?_⟩
      · have hz' := h.zero r hr (fun t ht => hz t (List.mem_append_left _ ht))
        obtain ⟨q1, q2⟩ := hz0 r hr (hz s hsm) (hz o' (List.mem_append_left _ oS))
        rw [q1, q2]; exact hz'
      · rcases List.mem_append.1 ht with ht | ht
        · by_cases e : t = o'
          · rw [e, ko.1, ko.2]; exact .inr ⟨rfl, rfl⟩
          · rw [(kS t ht e).1, (kS t ht e).2]; exact h.has t ht
        · rw [List.mem_singleton.1 ht, ks.1, ks.2]; exact .inl ⟨rfl, hh1⟩
      · rcases List.mem_append.1 ht with ht | ht
        · have e : t ≠ o' := fun e => by rw [e, ko.1] at h1; omega
          rw [(kS t ht e).1] at h1
          rw [(kS t ht e).2, hl]
          split
          · rename_i e2
            exact ⟨s, hsm, rfl, ks.1, by rw [ks.2, e2], .inr (before t ht e h1 e2)⟩
          · rename_i e2
            obtain ⟨t0, a1, a2, a3, a4, a5⟩ := h.last t ht h1
            have e3 : t0 ≠ o' := fun e3 => e2 (by rw [← a4, e3, oh])
            exact ⟨t0, List.mem_append_left _ a1, a2, by rw [(kS t0 a1 e3).1]; exact a3, by rw [(kS t0 a1 e3).2]; exact a4, a5⟩
        · rw [List.mem_singleton.1 ht, ks.2, hl, if_pos rfl]
          exact ⟨s, hsm, rfl, ks.1, ks.2, .inl rfl⟩
      · rw [hl] at ht
        split at ht
        · rename_i e
          cases ht
          exact ⟨hsm, ks.1, by rw [ks.2, e]⟩
        · rename_i e
          obtain ⟨a1, a2, a3⟩ := h.look h' t ht
          have e3 : t ≠ o' := fun e3 => e (by rw [← a3, e3, oh])
          exact ⟨List.mem_append_left _ a1, by rw [(kS t a1 e3).1]; exact a2, by rw [(kS t a1 e3).2]; exact a3⟩
      · have q : ∀ {t : Row}, st'.kd t = 1 → t ≠ o' := fun h1 e => by rw [e, ko.1] at h1; omega
        have e1 := q h1
        have e2 := q h1'
        rcases List.mem_append.1 ht with ht | ht <;> rcases List.mem_append.1 ht' with ht' | ht'
        · rw [(kS t ht e1).1] at h1; rw [(kS t' ht' e2).1] at h1'; rw [(kS t ht e1).2, (kS t' ht' e2).2] at h2
          exact h.dis t ht t' ht' hne h1 h1' h2
        · rw [List.mem_singleton.1 ht'] at h2 ⊢
          rw [(kS t ht e1).1] at h1; rw [(kS t ht e1).2, ks.2] at h2
          exact .inl (before t ht e1 h1 h2)
        · rw [List.mem_singleton.1 ht] at h2 ⊢
          rw [(kS t' ht' e2).1] at h1'; rw [(kS t' ht' e2).2, ks.2] at h2
          exact .inr (before t' ht' e2 h1' h2.symm)
        · exact absurd ((List.mem_singleton.1 ht).trans (List.mem_singleton.1 ht').symm) hne

/-! ### All spans -/
theorem AInv.run {L : List Row} (hL : ∀ s ∈ L, okS s) (hd : ∀ a ∈ L, ∀ b ∈ L, rg a = rg b → a = b) (hs : L.Pairwise rle) (hn : (L.map rg).Nodup) : ∀ (n : Nat), n ≤ L.length → AInv (L.take n) ((L.take n).foldl stepA a0)
  | 0, _ => by rw [List.take_zero]; exact AInv.zero'
  | n + 1, h => by
    have ih := AInv.run hL hd hs hn n (by omega)
    rw [List.take_succ_eq_append_getElem (by omega), List.foldl_append]
    have hm : ∀ t ∈ L.take n, t ∈ L := fun t ht => List.mem_of_mem_take ht
    refine ih.step (hL _ (List.getElem_mem _)) (fun t ht => ⟨hL t (hm t ht), ?_, ?_⟩) (fun a ha b hb => hd a (hm a ha) b (hm b hb))
    · obtain ⟨i, hi, e⟩ := List.getElem_of_mem ht
      rw [List.length_take] at hi
      rw [List.getElem_take] at e
      rw [List.Nodup, List.pairwise_map, List.pairwise_iff_getElem] at hn
      rw [← e]
      exact hn i n (by omega) (by omega) (by omega)
    · obtain ⟨i, hi, e⟩ := List.getElem_of_mem ht
      rw [List.length_take] at hi
      rw [List.getElem_take] at e
      rw [List.pairwise_iff_getElem] at hs
      have := hs i n (by omega) (by omega) (by omega)
      rw [e, rle_iff] at this
      omega
theorem RightU.srt {L : List Row} (h : RightU L L.length) : RightU (srt L) (Go.Proofs.Ytoaffiooliclgaa.srt L).length := by
  have := aRight_perm (srt_perm L).symm
  unfold aRight at this
  exact (decide_eq_decide.1 this).1 h
theorem runA_inv {L : List Row} (h : RightU L L.length) : AInv (srt L) (runA L) := by
  have h' := h.srt
  have := AInv.run (fun s hs => h'.ok hs) (fun a ha b hb => h'.inj ha hb) (srt_sorted L) h'.nodup (srt L).length (Nat.le_refl _)
  rwa [List.take_length] at this
theorem runA_inv' {L : List Row} (h : RightU L L.length) : AInv L (runA L) := by
  have hi := runA_inv h
  have hm : ∀ s, s ∈ srt L ↔ s ∈ L := fun s => (srt_perm L).mem_iff
  exact ⟨hi.k, hi.n, fun r hr hz => hi.zero r hr (fun s hs => hz s ((hm s).1 hs)), fun s hs => hi.has s ((hm s).2 hs), fun s hs h1 => by
    obtain ⟨t, a1, a2⟩ := hi.last s ((hm s).2 hs) h1
    exact ⟨t, (hm t).1 a1, a2⟩, fun h t ht => by
    obtain ⟨a1, a2⟩ := hi.look h t ht
    exact ⟨(hm t).1 a1, a2⟩, fun s hs t ht => hi.dis s ((hm s).2 hs) t ((hm t).2 ht)⟩

/-! ### Spills get numbers -/
def cntK (K : List Int) : Nat → Nat
  | 0 => 0
  | r + 1 => cntK K r + if K.getD r 0 = 2 then 1 else 0
def numb (K N : List Int) : Nat → List Int
  | 0 => N
  | r + 1 => if K.getD r 0 = 2 then (numb K N r).set r (cntK K r) else numb K N r
theorem cntK_le (K : List Int) : ∀ r, cntK K r ≤ r
  | 0 => Nat.le_refl _
  | r + 1 => by have := cntK_le K r; unfold cntK; split <;> omega
theorem cntK_mono (K : List Int) {r : Nat} : ∀ {q : Nat}, r ≤ q → cntK K r ≤ cntK K q
  | 0, h => by obtain rfl : r = 0 := by omega
               exact Nat.le_refl _
  | q + 1, h => by
    by_cases e : r = q + 1
    · rw [e]; exact Nat.le_refl _
    · have := cntK_mono K (r := r) (q := q) (by omega)
      show cntK K r ≤ cntK K q + _
      omega
theorem cntK_lt {K : List Int} {r q : Nat} (h : K.getD r 0 = 2) (hq : r < q) : cntK K r < cntK K q := by
  have h1 := cntK_mono K (show r + 1 ≤ q from hq)
  have h2 : cntK K (r + 1) = cntK K r + 1 := by rw [cntK, if_pos h]
  omega
theorem numb_len (K N : List Int) : ∀ r, (numb K N r).length = N.length
  | 0 => rfl
  | r + 1 => by
    unfold numb
    split
    · rw [List.length_set, numb_len K N r]
    · exact numb_len K N r
theorem numb_at (K N : List Int) (hN : N.length = 11) : ∀ (r : Nat), r ≤ 11 → ∀ q, q < 11 → (numb K N r).getD q 0 = if q < r ∧ K.getD q 0 = 2 then (cntK K q : Int) else N.getD q 0
  | 0, _, q, hq => by rw [if_neg (by omega)]; rfl
  | r + 1, hr, q, hq => by
    have ih := numb_at K N hN r (by omega) q hq
    unfold numb
    split
    · rename_i h2
      rw [getD_set (by rw [numb_len, hN]; omega)]
      split
      · rename_i e
        subst e
        rw [if_pos ⟨by omega, h2⟩]
      · rename_i e
        rw [ih]
        by_cases h3 : q < r ∧ K.getD q 0 = 2
        · rw [if_pos h3, if_pos ⟨by omega, h3.2⟩]
        · rw [if_neg h3, if_neg (fun h4 => h3 ⟨by omega, h4.2⟩)]
    · rename_i h2
      rw [ih]
      by_cases h3 : q < r ∧ K.getD q 0 = 2
      · rw [if_pos h3, if_pos ⟨by omega, h3.2⟩]
      · rw [if_neg h3, if_neg (fun h4 => h3 ⟨by
          by_cases e : q = r
          · exact absurd (e ▸ h4.2) h2
          · omega, h4.2⟩)]

/-! ### What is let be -/
def pk (L : List Row) (r : Nat) : Int := (runA L).K.getD r 0
def pn (L : List Row) (r : Nat) : Int := (numb (runA L).K (runA L).N 11).getD r 0
theorem place_of {L : List Row} (h : RightU L L.length) {s : Row} (hs : s ∈ L) : (pk L (rg s).toNat = 1 ∧ pn L (rg s).toNat ∈ homesL (ov s)) ∨ (pk L (rg s).toNat = 2 ∧ 0 ≤ pn L (rg s).toNat ∧ pn L (rg s).toNat < 11) := by
  have hi := runA_inv' h
  have hr : (rg s).toNat < 11 := by have := (h.ok hs).1; omega
  have hn := numb_at (runA L).K (runA L).N hi.n 11 (Nat.le_refl _) _ hr
  rcases hi.has s hs with ⟨h1, h2⟩ | ⟨h1, h2⟩
  · refine .inl ⟨h1, ?_⟩
    unfold pn
    rw [hn, if_neg (fun h3 => by have := h3.2; unfold Ast.kd at h1; omega)]
    exact h2
  · refine .inr ⟨h1, ?_⟩
    unfold pn
    rw [hn, if_pos ⟨hr, h1⟩]
    have := cntK_le (runA L).K (rg s).toNat
    omega
theorem place_none {L : List Row} (h : RightU L L.length) {r : Nat} (hr : r < 11) (hz : ∀ s ∈ L, (rg s).toNat ≠ r) : pk L r = 0 ∧ pn L r = 0 := by
  have hi := runA_inv' h
  have hn := numb_at (runA L).K (runA L).N hi.n 11 (Nat.le_refl _) _ hr
  obtain ⟨h1, h2⟩ := hi.zero r hr hz
  refine ⟨h1, ?_⟩
  unfold pn
  rw [hn, if_neg (fun h3 => by have := h3.2; omega)]
  exact h2
theorem place_apart {L : List Row} (h : RightU L L.length) {s t : Row} (hs : s ∈ L) (ht : t ∈ L) (hne : s ≠ t) (hk : pk L (rg s).toNat = pk L (rg t).toNat) (hn : pn L (rg s).toNat = pn L (rg t).toNat) : tt s < fr t ∨ tt t < fr s := by
  have hi := runA_inv' h
  have hrs : (rg s).toNat < 11 := by have := (h.ok hs).1; omega
  have hrt : (rg t).toNat < 11 := by have := (h.ok ht).1; omega
  have hns := numb_at (runA L).K (runA L).N hi.n 11 (Nat.le_refl _) _ hrs
  have hnt := numb_at (runA L).K (runA L).N hi.n 11 (Nat.le_refl _) _ hrt
  unfold pn at hn
  unfold pk at hk
  rw [hns, hnt] at hn
  rcases hi.has s hs with ⟨h1, h2⟩ | ⟨h1, h2⟩
  · have h1' : (runA L).kd t = 1 := hk.symm.trans h1
    rw [if_neg (fun h3 => by have := h3.2; unfold Ast.kd at h1; omega), if_neg (fun h3 => by have := h3.2; unfold Ast.kd at h1'; omega)] at hn
    exact hi.dis s hs t ht hne h1 h1' hn
  · have h1' : (runA L).kd t = 2 := hk.symm.trans h1
    rw [if_pos ⟨hrs, h1⟩, if_pos ⟨hrt, h1'⟩] at hn
    have hreg : (rg s).toNat ≠ (rg t).toNat := fun e => hne (h.inj hs ht (by have := (h.ok hs).1; have := (h.ok ht).1; omega))
    rcases Nat.lt_or_gt_of_ne hreg with h3 | h3
    · have := cntK_lt h1 h3; omega
    · have := cntK_lt h1' h3; omega
end Go.Proofs.Ytoaffiooliclgaa
