/- Giving spans homes, in plain words: nothing spills needlessly; how much the spills take. No walk is in here. -/
import Derived.Test.YtoaffiooliclgaaAlB
set_option linter.unusedSimpArgs false
set_option linter.unusedVariables false
set_option linter.unusedVariables false
set_option linter.unusedSimpArgs false
namespace Go.Proofs.Ytoaffiooliclgaa
open Go Go.RowKit

theorem nodup_sub : ∀ {l m : List Row}, l.Nodup → (∀ x ∈ l, x ∈ m) → l.length ≤ m.length
  | [], m, _, _ => Nat.zero_le _
  | x :: l, m, hn, hm => by
    rw [List.nodup_cons] at hn
    have hx := hm x List.mem_cons_self
    have h1 := nodup_sub (l := l) (m := m.erase x) hn.2 (fun y hy => (List.mem_erase_of_ne (fun e => hn.1 (by rw [e] at hy; exact hy))).2 (hm y (List.mem_cons_of_mem _ hy)))
    have h2 := List.length_erase_of_mem hx
    have h3 := List.length_pos_iff.2 (List.ne_nil_of_mem hx)
    rw [List.length_cons]; omega
/-- How many spans lie where one begins. -/
def nAt (L : List Row) (s : Row) : Nat := (L.filter fun o => decide (fr o ≤ fr s) && decide (fr s ≤ tt o)).length
def overL (L : List Row) : Bool := L.any ov
def mostN (L : List Row) : Nat → Int
  | 0 => 0
  | i + 1 => max (mostN L i) (nAt L (L.getD i []) : Int)
theorem most_ge (L : List Row) : ∀ {n i : Nat}, i < n → (nAt L (L.getD i []) : Int) ≤ mostN L n
  | n + 1, i, h => by
    unfold mostN
    by_cases e : i = n
    · subst e; omega
    · have := most_ge L (n := n) (i := i) (by omega); omega
theorem most_mem {L : List Row} {s : Row} (h : s ∈ L) : (nAt L s : Int) ≤ mostN L L.length := by
  obtain ⟨i, hi, rfl⟩ := mem_getD h
  exact most_ge L hi
theorem stepA_free {st : Ast} {s : Row} {h : Int} (hp : pick st.T (fr s) (homesL (ov s)) = some h) : stepA st s = ⟨putR 1 h s st.T, st.K.set (rg s).toNat 1, st.N.set (rg s).toNat h⟩ := by
  unfold stepA; rw [hp]
/-- Where few spans lie, some home is free. -/
theorem free_home {L S : List Row} {st : Ast} {s : Row} (hL : RightU L L.length) (h : AInv S st) (hs : s ∈ L) (hS : ∀ t ∈ S, t ∈ L ∧ t ≠ s ∧ fr t ≤ fr s) (hf : ¬ ((overL L = true ∧ 2 < mostN L L.length) ∨ 6 < mostN L L.length)) :
    ∃ hh, pick st.T (fr s) (homesL (ov s)) = some hh := by
  cases hp : pick st.T (fr s) (homesL (ov s)) with
  | some hh => exact ⟨hh, rfl⟩
  | none =>
    exfalso
    have hb := pick_none hp
    have hm := most_mem hs
    have key : ∀ l : List Int, l.Nodup → (∀ x ∈ l, x ∈ homesL (ov s)) → l.length + 1 ≤ nAt L s := fun l hn hl => by
      have hat : ∀ x ∈ l, ∃ o, Go.Proofs.Ytoaffiooliclgaa.look st.T 1 x = some o ∧ o ∈ S ∧ st.hn o = x ∧ fr s ≤ tt o := fun x hx => by
        obtain ⟨o, h1, h2⟩ := busy_some (hb x (hl x hx))
        obtain ⟨a1, a2, a3⟩ := h.look x o h1
        exact ⟨o, h1, a1, a3, h2⟩
      have h1 : (s :: l.map fun x => (Go.Proofs.Ytoaffiooliclgaa.look st.T 1 x).getD []).Nodup := by
        rw [List.nodup_cons]
        refine ⟨fun hmem => ?_, ?_⟩
        · obtain ⟨x, hx, e⟩ := List.mem_map.1 hmem
          obtain ⟨o, h1, h2, h3, h4⟩ := hat x hx
          rw [h1] at e
          exact (hS o h2).2.1 e
        · rw [List.Nodup, List.pairwise_map]
          refine List.Pairwise.imp_of_mem (fun {a b} ha hb' hne e => ?_) hn
          obtain ⟨o, h1, h2, h3, h4⟩ := hat a ha
          obtain ⟨o', h1', h2', h3', h4'⟩ := hat b hb'
          rw [h1, h1'] at e
          simp only [Option.getD_some] at e
          exact hne (by rw [← h3, ← h3', e])
      have h2 := nodup_sub (m := L.filter fun o => decide (fr o ≤ fr s) && decide (fr s ≤ tt o)) h1 (fun y hy => by
        rw [List.mem_filter, Bool.and_eq_true, decide_eq_true_eq, decide_eq_true_eq]
        rcases List.mem_cons.1 hy with rfl | hy
        · exact ⟨hs, by omega, (hL.ok hs).2.2.1⟩
        · obtain ⟨x, hx, e⟩ := List.mem_map.1 hy
          obtain ⟨o, h1, h2, h3, h4⟩ := hat x hx
          rw [h1] at e
          obtain rfl : o = y := e
          exact ⟨(hS o h2).1, (hS o h2).2.2, h4⟩)
      rw [List.length_cons, List.length_map] at h2
      exact h2
    cases ho : ov s with
    | true =>
      rw [ho] at key
      have := key [3, 9] (by decide) (fun x hx => hx)
      have hov : overL L = true := List.any_eq_true.2 ⟨s, hs, ho⟩
      exact hf (.inl ⟨hov, by simp at this; omega⟩)
    | false =>
      rw [ho] at key
      have := key [3, 9, 6, 7, 8, 10] (by decide) (fun x hx => hx)
      exact hf (.inr (by simp at this; omega))
theorem run_few {L : List Row} (hL : RightU L L.length) (hf : ¬ ((overL L = true ∧ 2 < mostN L L.length) ∨ 6 < mostN L L.length)) : ∀ s ∈ L, pk L (rg s).toNat = 1 := by
  have h' := hL.srt
  have hm : ∀ s, s ∈ srt L ↔ s ∈ L := fun s => (srt_perm L).mem_iff
  have key : ∀ n, n ≤ (srt L).length → ∀ s ∈ (srt L).take n, (((srt L).take n).foldl stepA a0).kd s = 1 := by
    intro n
    induction n with
    | zero => intro _ s hs; rw [List.take_zero] at hs; cases hs
    | succ n ih =>
      intro hn s hs
      have hi := AInv.run (fun s hs => h'.ok hs) (fun a ha b hb => h'.inj ha hb) (srt_sorted L) h'.nodup n (by omega)
      rw [List.take_succ_eq_append_getElem (by omega)] at hs ⊢
      rw [List.foldl_append]
      obtain ⟨x, hx⟩ : ∃ x, x = (srt L)[n] := ⟨_, rfl⟩
      rw [← hx] at hs ⊢
      have hxL : x ∈ srt L := hx ▸ List.getElem_mem _
      have hreg : ∀ t ∈ (srt L).take n, rg t ≠ rg x := fun t ht => by
        obtain ⟨i, hi, e⟩ := List.getElem_of_mem ht
        rw [List.length_take] at hi
        rw [List.getElem_take] at e
        have hnn := h'.nodup
        rw [List.Nodup, List.pairwise_map, List.pairwise_iff_getElem] at hnn
        rw [← e, hx]
        exact hnn i n (by omega) (by omega) (by omega)
      obtain ⟨hh, hp⟩ := free_home hL hi ((hm x).1 hxL) (fun t ht => ⟨(hm t).1 (List.mem_of_mem_take ht), fun e => hreg t ht (by rw [e]), by
        obtain ⟨i, hi, e⟩ := List.getElem_of_mem ht
        rw [List.length_take] at hi
        rw [List.getElem_take] at e
        have hs' := srt_sorted L
        rw [List.pairwise_iff_getElem] at hs'
        have := hs' i n (by omega) (by omega) (by omega)
        rw [e, rle_iff, ← hx] at this
        omega⟩) hf
      show (stepA _ x).kd s = 1
      rw [stepA_free hp]
      unfold Ast.kd
      dsimp only
      have hxo := (h'.ok hxL).1
      have hkl := hi.k
      rw [getD_set (by omega)]
      rcases List.mem_append.1 hs with hs | hs
      · have hso := (h'.ok (List.mem_of_mem_take hs)).1
        have := hreg s hs
        rw [if_neg (by omega)]
        exact ih (by omega) s hs
      · rw [List.mem_singleton.1 hs, if_pos rfl]
  intro s hs
  have := key (srt L).length (Nat.le_refl _) s (by rw [List.take_length]; exact (hm s).2 hs)
  rw [List.take_length] at this
  exact this
theorem pk_few {L : List Row} (hL : RightU L L.length) (hf : ¬ ((overL L = true ∧ 2 < mostN L L.length) ∨ 6 < mostN L L.length)) {r : Nat} (hr : r < 11) : pk L r ≠ 2 := by
  by_cases hz : ∀ s ∈ L, (rg s).toNat ≠ r
  · rw [(place_none hL hr hz).1]; decide
  · rw [Classical.not_forall] at hz
    obtain ⟨s, hz⟩ := hz
    rw [Classical.not_imp, Classical.not_not] at hz
    rw [← hz.2, run_few hL hf s hz.1]; decide
/-- How much the spills take. -/
def splN (K N : Nat → Int) : Nat → Int
  | 0 => 0
  | r + 1 => if K r = 2 then max (splN K N r) (N r + 1) else splN K N r
theorem spl_none {K N : Nat → Int} : ∀ (n : Nat), (∀ r, r < n → K r ≠ 2) → splN K N n = 0
  | 0, _ => rfl
  | n + 1, h => by
    unfold splN
    rw [if_neg (h n (by omega))]
    exact spl_none n fun r hr => h r (by omega)
theorem spl_le {K N : Nat → Int} : ∀ (n : Nat), (∀ r, r < n → K r = 2 → 0 ≤ N r ∧ N r < 11) → 0 ≤ splN K N n ∧ splN K N n ≤ 11
  | 0, _ => ⟨Int.le_refl _, by unfold splN; omega⟩
  | n + 1, h => by
    have := spl_le n fun r hr => h r (by omega)
    unfold splN
    split
    · rename_i h2
      have := h n (by omega) h2
      omega
    · exact this
theorem spl_bound {K N : Nat → Int} (hN : ∀ r, -128 ≤ N r ∧ N r ≤ 127) : ∀ (n : Nat), 0 ≤ splN K N n ∧ splN K N n ≤ 128
  | 0 => ⟨Int.le_refl _, by unfold splN; omega⟩
  | n + 1 => by
    have := spl_bound (K := K) hN n
    have := hN n
    unfold splN
    split <;> omega
/-- The number of places that are given. -/
def gotN (K : Nat → Int) : Nat → Nat
  | 0 => 0
  | r + 1 => gotN K r + if K r = 0 then 0 else 1
theorem got_all {L : List Row} (hL : RightU L L.length) : gotN (pk L) 11 = L.length := by
  have key : ∀ n, n ≤ 11 → gotN (pk L) n = (L.filter fun s => decide ((rg s).toNat < n)).length := by
    intro n
    induction n with
    | zero =>
      intro _
      rw [List.filter_eq_nil_iff.2 (fun a _ => by simp)]; rfl
    | succ n ih =>
      intro hn
      have ih := ih (by omega)
      unfold gotN
      rw [ih]
      by_cases hz : ∀ s ∈ L, (rg s).toNat ≠ n
      · rw [(place_none hL (by omega) hz).1, if_pos rfl, Nat.add_zero]
        congr 1
        refine List.filter_congr fun s hs => ?_
        have := hz s hs
        rw [decide_eq_decide]; omega
      · rw [Classical.not_forall] at hz
        obtain ⟨s, hz⟩ := hz
        rw [Classical.not_imp, Classical.not_not] at hz
        obtain ⟨hs, hn'⟩ := hz
        have hne : pk L n ≠ 0 := by
          rw [← hn']
          rcases place_of hL hs with h | h <;> rw [h.1] <;> decide
        rw [if_neg hne]
        have hnd := hL.nodup
        have hin : ∀ a ∈ L, ∀ b ∈ L, rg a = rg b → a = b := fun a ha b hb => hL.inj ha hb
        have hok : ∀ a ∈ L, 0 ≤ rg a := fun a ha => (hL.ok ha).1.1
        clear ih hne hL
        have gen : ∀ (M : List Row), (∀ a ∈ M, 0 ≤ rg a) → (M.map rg).Nodup → s ∈ M → (M.filter fun s => decide ((rg s).toNat < n)).length + 1 = (M.filter fun s => decide ((rg s).toNat < n + 1)).length := by
          intro M
          induction M with
          | nil => intro _ _ h; cases h
          | cons y M ihM =>
            intro h0 hnd hsM
            rw [List.map_cons, List.nodup_cons] at hnd
            rw [List.filter_cons, List.filter_cons]
            by_cases hy : y = s
            · subst hy
              rw [if_neg (by simp; omega), if_pos (by simp; omega), List.length_cons]
              congr 1
              congr 1
              refine List.filter_congr fun t ht => ?_
              have h1 : rg t ≠ rg y := fun e => hnd.1 (e ▸ List.mem_map_of_mem ht)
              have h2 := h0 t (List.mem_cons_of_mem _ ht)
              have h3 := h0 y List.mem_cons_self
              rw [decide_eq_decide]; omega
            · have hsM' : s ∈ M := (List.mem_cons.1 hsM).resolve_left (fun e => hy e.symm)
              have ih2 := ihM (fun a ha => h0 a (List.mem_cons_of_mem _ ha)) hnd.2 hsM'
              have h1 : rg y ≠ rg s := fun e => hnd.1 (e ▸ List.mem_map_of_mem hsM')
              have h2 := h0 y List.mem_cons_self
              have h3 := h0 s hsM
              by_cases hlt : (rg y).toNat < n
              · rw [if_pos (by simpa using hlt), if_pos (by simp; omega), List.length_cons, List.length_cons]; omega
              · rw [if_neg (by simpa using hlt), if_neg (by simp; omega)]; exact ih2
        exact gen L hok hnd hs
  rw [key 11 (Nat.le_refl _)]
  congr 1
  refine List.filter_eq_self.2 fun s hs => ?_
  have := (hL.ok hs).1
  rw [decide_eq_true_eq]; omega
theorem pk_turn {L L' : List Row} (hL : RightU L L.length) (hp : L.Perm L') : pk L = pk L' ∧ pn L = pn L' := by
  have : runA L = runA L' := by unfold runA; rw [srt_turn hp (fun a ha b hb => hL.inj ha hb)]
  unfold pk pn
  rw [this]
  exact ⟨rfl, rfl⟩
end Go.Proofs.Ytoaffiooliclgaa
