/- What the laws of runs come to: outcomes compared; instructions behind a program's end. No walk is in here. -/
import Derived.Test.YtghiofgomcihcaaMoD
set_option linter.unusedSimpArgs false
set_option linter.unusedVariables false
set_option linter.unusedVariables false
set_option linter.unusedSimpArgs false
namespace Go.Proofs.Ytghiofgomcihcaa
open Go Go.RowKit

def ewords (a b : List (List Int)) : Bool := ((a.length : Int) == (b.length : Int)) && (List.range a.length).all fun i => gt a (i : Int) 0 == gt b (i : Int) 0
def argsOf (l : List (List Int)) (i : Int) : List (List Int) := List.take (gt l i 2).toNat ((((([] ++ [[gt l i 3]]) ++ [[gt l i 4]]) ++ [[gt l i 5]]) ++ [[gt l i 6]]) ++ [[gt l i 7]])
def evEq (a b : List (List Int)) (i : Int) : Bool := gt a i 0 == gt b i 0 && (gt a i 1 == gt b i 1 && ewords (argsOf a i) (argsOf b i))
def ebegins (a b : List (List Int)) : Bool := !decide ((b.length : Int) < (a.length : Int)) && (List.range a.length).all fun i => evEq a b (i : Int)
def esame (a b : Out) : Bool := (a.kind == b.kind) && ((a.r0 == b.r0) && ((a.ctx == b.ctx) && (((a.tr.length : Int) == (b.tr.length : Int)) && (ebegins a.tr b.tr && (a.left == b.left)))))
def elike (a b : Out) : Bool := (a.kind == b.kind) && (((a.tr.length : Int) == (b.tr.length : Int)) && (ebegins a.tr b.tr && (if (a.kind == 1) = true then (a.r0 == b.r0) && (a.ctx == b.ctx) else true)))
theorem all_upto {f : Nat → Bool} {n : Nat} (h : ∀ j, j < n → f j = true) : (List.range n).all f = true := by
  rw [List.all_eq_true]
  intro x hx
  exact h x (List.mem_range.1 hx)
theorem not_upto {f : Nat → Bool} {n j : Nat} (hj : j < n) (h : f j = false) : (List.range n).all f = false := by
  rw [List.all_eq_false]
  exact ⟨j, List.mem_range.2 hj, by rw [h]; decide⟩
theorem ewords_refl (a : List (List Int)) : ewords a a = true := by
  unfold ewords
  rw [all_upto (fun j _ => beq_self_eq_true _), beq_self_eq_true]; rfl
theorem argsOf_len (l : List (List Int)) (i : Int) : (argsOf l i).length ≤ maxLen := by
  unfold argsOf
  rw [List.length_take]
  exact Nat.le_trans (Nat.min_le_right _ _) (by show 5 ≤ maxLen; decide)
theorem evEq_of {a b : List (List Int)} {i : Nat} (h : a[i]? = b[i]?) : evEq a b (i : Int) = true := by
  have hg : ∀ c, gt a (i : Int) c = gt b (i : Int) c := by
    intro c; unfold gt; rw [List.getD_eq_getElem?_getD (l := a), List.getD_eq_getElem?_getD (l := b), Int.toNat_natCast, h]
  have ha : argsOf a (i : Int) = argsOf b (i : Int) := by
    unfold argsOf; simp only [hg]
  unfold evEq
  rw [ha, ewords_refl, hg, hg, beq_self_eq_true, beq_self_eq_true]; rfl
theorem ebegins_of {a b : List (List Int)} (h : a <+: b) : ebegins a b = true := by
  obtain ⟨t, rfl⟩ := h
  unfold ebegins
  rw [decide_eq_false (by rw [List.length_append]; omega)]
  rw [all_upto (fun j hj => evEq_of (by rw [List.getElem?_append_left hj]))]; rfl
theorem esame_refl (a : Out) : esame a a = true := by
  unfold esame
  rw [ebegins_of (List.prefix_refl _)]
  simp
/-! ### Instructions behind a program's end -/
theorem scan_no {q : Prog} : ∀ (m n : Nat), (∀ j, j < m → badAt q ((n + j : Nat) : Int) = none) → scan q m n = none
  | 0, _, _ => rfl
  | m + 1, n, h => by
    unfold scan
    rw [show badAt q (n : Int) = none from h 0 (by omega)]
    exact scan_no m (n + 1) fun j hj => by rw [show n + 1 + j = n + (j + 1) by omega]; exact h (j + 1) (by omega)
theorem icheck_y {q : Prog} (h0 : 0 ≤ q.ctx ∧ q.ctx ≤ 256) (h1 : q.last = (q.l.length : Int) - 1) (h2 : 1 ≤ q.l.length ∧ q.l.length ≤ 64) (h3 : ∀ n : Nat, n < q.l.length → badAt q n = none) (h4 : (insAt q.l q.last).k = 4 ∨ (insAt q.l q.last).k = 6) : icheck q = (0, 0) := by
  unfold icheck
  rw [if_neg (by rw [decide_eq_true h0.1, decide_eq_true h0.2]; decide), if_neg (by rw [decide_eq_true (by omega), decide_eq_true (by omega)]; decide), scan_no _ 0 (fun j hj => by rw [Nat.zero_add]; exact h3 j hj)]
  show (if _ then _ else _) = _
  rw [if_pos h4]
def exitI : List Int := [6, 0, 0, 0, 0, 0, 0, 0, 0]
theorem insAt_app {l t : List (List Int)} {i : Nat} (h : i < l.length) : insAt (l ++ t) (i : Int) = insAt l (i : Int) := by
  have : ∀ c, gt (l ++ t) (i : Int) c = gt l (i : Int) c := by
    intro c; unfold gt; rw [Int.toNat_natCast, List.getD_eq_getElem?_getD (l := l ++ t), List.getD_eq_getElem?_getD (l := l), List.getElem?_append_left h]
  unfold insAt; simp only [this]
theorem insAt_exit {l : List (List Int)} {k i : Nat} (h : l.length ≤ i) (h2 : i < l.length + k) : insAt (l ++ List.replicate k exitI) (i : Int) = ⟨6, 0, 0, 0, false, 0, 0, 0, 0⟩ := by
  have : ∀ c, gt (l ++ List.replicate k exitI) (i : Int) c = exitI.getD c 0 := by
    intro c; unfold gt; rw [Int.toNat_natCast, List.getD_eq_getElem?_getD (l := l ++ _), List.getElem?_append_right h, List.getElem?_replicate, if_pos (by omega), Option.getD_some]
  unfold insAt; simp only [this]; rfl
theorem badAt_app {p : Prog} {k n : Nat} (hl : p.last ≤ (Prog.mk p.ctx (p.l ++ List.replicate k exitI)).last) (h : n < p.l.length) (hb : badAt p n = none) : badAt ⟨p.ctx, p.l ++ List.replicate k exitI⟩ n = none := by
  unfold badAt at hb ⊢
  show (if imay (insAt (p.l ++ _) n) = false then _ else if (itgt n (insAt (p.l ++ _) n)).2 = true ∧ (decide (0 ≤ (itgt n (insAt (p.l ++ _) n)).1) && decide ((itgt n (insAt (p.l ++ _) n)).1 ≤ _)) = false then _ else _) = _
  rw [insAt_app h]
  split at hb
  · cases hb
  · rename_i h1
    rw [if_neg h1]
    split at hb
    · cases hb
    · rename_i h2
      refine if_neg fun h3 => h2 ⟨h3.1, ?_⟩
      have h4 := h3.2
      rw [Bool.and_eq_false_iff, decide_eq_false_iff_not, decide_eq_false_iff_not] at h4 ⊢
      omega
theorem icheck_app {p : Prog} (hp : p.l.length ≤ maxLen) (hok : (icheck p).2 = 0) {k : Nat} (hk : p.l.length + k ≤ 64) : icheck ⟨p.ctx, p.l ++ List.replicate k exitI⟩ = (0, 0) := by
  obtain ⟨⟨hl, n1, n64⟩, hall, hlast⟩ := icheck_ok hp hok
  have hlen : (p.l ++ List.replicate k exitI).length = p.l.length + k := by rw [List.length_append, List.length_replicate]
  have hq : (Prog.mk p.ctx (p.l ++ List.replicate k exitI)).last = ((p.l.length + k : Nat) : Int) - 1 := by
    show opI .sub .i64 (((p.l ++ List.replicate k exitI).length : Nat) : Int) 1 = _
    rw [hlen]; exact sub1 (by omega) (by omega)
  refine icheck_y (q := ⟨p.ctx, p.l ++ List.replicate k exitI⟩) (show 0 ≤ p.ctx ∧ p.ctx ≤ 256 from icheck_cx hok) (by rw [hq]; show _ = (((p.l ++ List.replicate k exitI).length : Nat) : Int) - 1; rw [hlen]) (by show 1 ≤ (p.l ++ List.replicate k exitI).length ∧ (p.l ++ List.replicate k exitI).length ≤ 64; rw [hlen]; omega) (fun n hn => ?_) ?_
  · have hn : n < p.l.length + k := by rw [← hlen]; exact hn
    by_cases h : n < p.l.length
    · exact badAt_app (by rw [hq, hl]; omega) h (hall n h)
    · unfold badAt
      show (if imay (insAt (p.l ++ List.replicate k exitI) n) = false then _ else if (itgt n (insAt (p.l ++ List.replicate k exitI) n)).2 = true ∧ _ then _ else _) = _
      rw [insAt_exit (by omega) hn, if_neg (by decide), if_neg]
      rintro ⟨h1, _⟩
      unfold itgt at h1
      rw [if_neg (by simp)] at h1
      cases h1
  · rw [hq]
    show (insAt (p.l ++ List.replicate k exitI) _).k = 4 ∨ _
    by_cases h : k = 0
    · subst h
      rw [show p.l ++ List.replicate 0 exitI = p.l by simp, show ((p.l.length + 0 : Nat) : Int) - 1 = p.last by rw [hl]; omega]
      exact hlast
    · right
      rw [show ((p.l.length + k : Nat) : Int) - 1 = ((p.l.length + k - 1 : Nat) : Int) by omega, insAt_exit (by omega) (by omega)]
theorem halt_same {p q : Prog} {m : Ms} (h : insAt q.l m.pc = insAt p.l m.pc) : halt q m = halt p m := by unfold halt; rw [h]
theorem nxt_same {p q : Prog} {m : Ms} (h : insAt q.l m.pc = insAt p.l m.pc) : nxt q m = nxt p m := by unfold nxt; rw [h]
theorem exec_same {p q : Prog} (hp : p.l.length ≤ maxLen) (hok : (icheck p).2 = 0) (hq : ∀ i : Nat, i < p.l.length → insAt q.l (i : Int) = insAt p.l (i : Int)) : ∀ (f : Nat) (m : Ms), 0 ≤ m.pc → m.pc < (p.l.length : Int) → exec q f m = exec p f m
  | 0, m, _, _ => rfl
  | f + 1, m, h0, h1 => by
    have hi : insAt q.l m.pc = insAt p.l m.pc := by
      have := hq m.pc.toNat (by omega)
      rwa [Int.toNat_of_nonneg h0] at this
    unfold exec
    rw [halt_same hi, nxt_same hi]
    by_cases hh : halt p m = 0
    · rw [if_pos hh, if_pos hh]
      obtain ⟨q1, q2⟩ := pc_in hp hok h0 h1 hh
      exact exec_same hp hok hq f (nxt p m) q1 q2
    · rw [if_neg hh, if_neg hh]
theorem mrun_ok {p : Prog} {cx an : List (List Int)} {fu : Int} (h : (mrun p cx an fu).2 = 0) : openE p cx fu = 0 ∧ (mrun p cx an fu).1 = outOf (exec p fu.toNat (ms0 cx an)) := by
  unfold mrun at h ⊢
  by_cases ho : openE p cx fu = 0
  · rw [if_neg (by simp [ho])]
    exact ⟨ho, rfl⟩
  · rw [if_pos ho] at h
    exact absurd h ho
theorem open_y {p : Prog} {cx : List (List Int)} {fu : Int} (h : openE p cx fu = 0) : (icheck p).2 = 0 ∧ (cx.length : Int) = p.ctx ∧ 0 ≤ fu ∧ fu ≤ 10000 := by
  unfold openE at h
  split at h
  · rename_i h0; exact absurd h h0
  · rename_i h0
    split at h
    · cases h
    · rename_i h1; exact ⟨by simpa using h0, by omega, by omega, by omega⟩
/-- The law: instructions behind a program's end. -/
theorem mrun_behind {p : Prog} {cx an : List (List Int)} {fu : Int} (hp : p.l.length ≤ maxLen) (h : (mrun p cx an fu).2 = 0) {k : Nat} (hk : p.l.length + k ≤ 64 ∨ k = 0) : mrun ⟨p.ctx, p.l ++ List.replicate k exitI⟩ cx an fu = mrun p cx an fu := by
  obtain ⟨ho, h1⟩ := mrun_ok h
  obtain ⟨hok, hc, h0, h2⟩ := open_y ho
  obtain ⟨⟨_, n1, n64⟩, _, _⟩ := icheck_ok hp hok
  have hi := icheck_app hp hok (k := k) (by omega)
  have hoq : openE ⟨p.ctx, p.l ++ List.replicate k exitI⟩ cx fu = 0 := open_ok (by rw [hi]) hc h0 h2
  unfold mrun
  rw [hoq, ho]
  show (outOf _, _) = (outOf _, _)
  rw [exec_same hp hok (q := ⟨p.ctx, p.l ++ List.replicate k exitI⟩) (fun i hi => insAt_app hi) fu.toNat (ms0 cx an) (Int.le_refl _) (by show (0 : Int) < _; omega)]
end Go.Proofs.Ytghiofgomcihcaa

