/- An operation leads from a state of a symbolic run to the next one. Nothing of the program is in here. -/
import Derived.Test.YtoaffiooliclgaaSyH
set_option linter.unusedVariables false
set_option linter.unusedSimpArgs false
namespace Go.Proofs.Ytoaffiooliclgaa
open Go.RowKit

section
variable {P : Program} {ρ : Env} {n : Nat} {X : List Value} {W0 : World} {fb : Nat → Option (List C)} {F : FS} {j : J} {a : Act} {w : World}

/-- What an operation on rows must find. -/
def ReOk (F : FS) (nid : Nat) : RE → Prop
  | .none => True
  | .set id r => (∃ q, F.row id = some (some q) ∧ q.own = true) ∧ r.own = true
  | .mk rs => ∀ i, i < rs.length → F.row (nid + i) = none
  | .app old r => (∃ q, F.row old = some (some q) ∧ q.own = true) ∧ r.own = true ∧ F.row nid = none ∧ nid ≠ old
  | .view old q r => (∃ q0, F.row old = some (some q0)) ∧ q.own = false ∧ r.own = false ∧ F.row nid = none ∧ nid ≠ old

theorem mkRs_row : ∀ (rs : List RowOb) (nid : Nat) (F : FS) (b : Nat), (F.rws (mkRs nid rs)).row b = if nid ≤ b ∧ b < nid + rs.length then some rs[b - nid]? else F.row b
  | [], nid, F, b => by simp [mkRs, FS.rws]; omega
  | r :: rs, nid, F, b => by
    show ((F.rw1 (nid, some r)).rws (mkRs (nid + 1) rs)).row b = _
    rw [mkRs_row rs (nid + 1)]
    by_cases h1 : nid + 1 ≤ b ∧ b < nid + 1 + rs.length
    · rw [if_pos h1, if_pos (by simp; omega)]
      rw [show b - nid = (b - (nid + 1)) + 1 by omega]
      rfl
    · rw [if_neg h1]
      by_cases h2 : b = nid
      · subst h2
        rw [if_pos (by simp)]
        simp [FS.rw1]
      · rw [if_neg (by simp; omega)]
        simp [FS.rw1, h2]
theorem rws_box : ∀ (l : List (Nat × Option RowOb)) (F : FS), (F.rws l).box = F.box ∧ (F.rws l).tmp = F.tmp
  | [], _ => ⟨rfl, rfl⟩
  | p :: l, F => rws_box l (F.rw1 p)

theorem Rel.set (h : Rel ρ n X W0 fb F j a w) {w' : World} {id : Nat} {r : RowOb} {s : SV} (hr : ReOk F 0 (.set id r)) (hs : j.s id = some s) (hg : w.grownBy w' s.v.ownBlock) (hok : RowOk ρ W0.heap.size w' s r) : Rel ρ n X W0 fb (F.rws (RE.rs 0 (.set id r))) j a w' := by
  obtain ⟨⟨q, hq, hown⟩, hro⟩ := hr
  obtain ⟨hx, hb, hother⟩ := h.turn hq hown hs hg
  have back : ∀ b r', (F.rw1 (id, some r)).row b = some (some r') → ∃ q', F.row b = some (some q') ∧ r'.own = q'.own := by
    intro b r' hF
    simp only [FS.rw1] at hF
    split at hF
    · rename_i hbid; subst hbid; simp only [Option.some.injEq] at hF; subst hF; exact ⟨q, hq, by rw [hown]; exact hro⟩
    · exact ⟨r', hF, rfl⟩
  show Rel ρ n X W0 fb (F.rw1 (id, some r)) j a w'
  refine ⟨h.defers, h.size, h.tmp, h.sav, fun b cs ty hF => ?_, h.nob, h.inj, fun b r' hF => ?_, fun b hF => ?_, fun b b' k r' s' h1 h2 h3 => ?_, fun b b' r1 r2 s1 s2 k h1 h2 h3 h4 h5 => ?_, fun b cs hF => ?_, hx⟩
  · obtain ⟨k, vs, h1, h2, h3, h4⟩ := h.box b cs ty hF
    exact ⟨k, vs, h1, h2, h3, by rw [hb b k h1]; exact h4⟩
  · by_cases hbid : b = id
    · subst hbid
      simp only [FS.rw1, if_true, Option.some.injEq] at hF
      subst hF
      exact ⟨s, hs, hok⟩
    · simp only [FS.rw1, hbid, if_false] at hF
      obtain ⟨s', h1, h2⟩ := h.row b r' hF
      exact ⟨s', h1, h2.kept hg.size (fun k hk => hother b r' s' k hbid hF h1 hk)⟩
  · simp only [FS.rw1] at hF
    split at hF
    · cases hF
    · exact h.nor b hF
  · obtain ⟨q', hq', ho⟩ := back b' r' h2
    rw [ho]
    exact h.sep b b' k q' s' h1 hq' h3
  · obtain ⟨q1, hq1, ho⟩ := back b r1 h1
    obtain ⟨q2, hq2, ho2⟩ := back b' r2 h3
    rw [ho, ho2]
    exact h.rsep b b' q1 q2 s1 s2 k hq1 (by rw [← ho]; exact h2) hq2 h4 h5
  · obtain ⟨k, vs, h1, h2, h3, h4⟩ := h.fb b cs hF
    refine ⟨k, vs, h1, h2, h3, fun o v ho => ?_⟩
    rw [World.cell?_of_block (a := ⟨k, o, none⟩) ((hx.block' k h2).trans (h.ext.block' k h2).symm)]
    exact h4 o v ho

theorem putL_get {j : J} {nid : Nat} {svs : List SV} {b : Nat} : (j.putL nid svs).s b = if nid ≤ b ∧ b < nid + svs.length then svs[b - nid]? else j.s b := by
  simp only [J.putL]
  by_cases h1 : nid ≤ b
  · by_cases h2 : b < nid + svs.length
    · rw [if_pos h1, if_pos ⟨h1, h2⟩, List.getElem?_eq_getElem (by omega)]
    · rw [if_pos h1, if_neg (fun e => h2 e.2), List.getElem?_eq_none (by omega)]
  · rw [if_neg h1, if_neg (fun e => h1 e.1)]

theorem Rel.made (h : Rel ρ n X W0 fb F j a w) {w' : World} {nid : Nat} {rs : List RowOb} {svs : List SV} (hr : ReOk F nid (.mk rs)) (hx : Ext w w') (hl : svs.length = rs.length)
    (hok : ∀ (i : Nat) u r, svs[i]? = some u → rs[i]? = some r → RowOk ρ w.heap.size w' u r ∧ r.own = true) (hdis : ∀ (i i' : Nat) u u' k, svs[i]? = some u → svs[i']? = some u' → u.v.ownBlock = some k → u'.v.ownBlock = some k → i = i') :
    Rel ρ n X W0 fb (F.rws (mkRs nid rs)) (j.putL nid svs) a w' := by
  have h' := h.more hx
  have hn : ∀ b, nid ≤ b → b < nid + rs.length → j.s b = none := fun b h1 h2 => h.nor b (by have := hr (b - nid) (by omega); rwa [show nid + (b - nid) = b by omega] at this)
  have hs : Sub j (j.putL nid svs) := ⟨fun _ _ hb => hb, fun b v hb => by
    rw [putL_get]
    split
    · rename_i hin
      rw [hn b hin.1 (by omega)] at hb; cases hb
    · exact hb, fun _ _ hb => hb⟩
  obtain ⟨e1, e2⟩ := rws_box (mkRs nid rs) F
  -- a row is an elder one or a new one
  have rows : ∀ b r, (F.rws (mkRs nid rs)).row b = some (some r) → (F.row b = some (some r) ∧ (j.putL nid svs).s b = j.s b ∧ ¬ (nid ≤ b ∧ b < nid + rs.length)) ∨ ∃ i u, b = nid + i ∧ svs[i]? = some u ∧ rs[i]? = some r ∧ (j.putL nid svs).s b = some u := by
    intro b r hF
    rw [mkRs_row] at hF
    rw [putL_get, hl]
    split at hF
    · rename_i hin
      right
      have hi : b - nid < svs.length := by omega
      refine ⟨b - nid, svs[b - nid], by omega, List.getElem?_eq_getElem hi, by simpa using hF, ?_⟩
      rw [if_pos hin, List.getElem?_eq_getElem hi]
    · rename_i hin
      exact .inl ⟨hF, by rw [if_neg hin], hin⟩
  have blk : ∀ (i : Nat) (u : SV) (r : RowOb), svs[i]? = some u → rs[i]? = some r → ∀ k, u.v.ownBlock = some k → w.heap.size ≤ k := fun i u r h1 h2 k hk => ((hok i u r h1 h2).1.owned (hok i u r h1 h2).2 k hk).2
  refine ⟨h'.defers, h'.size, fun t ht => ?_, fun i v hi => by rw [e2]; exact (h'.sav i v hi).imp _root_.id (V.den_sub hs), fun b cs ty hF => ?_, fun b hF => ?_, h'.inj, fun b r hF => ?_, fun b hF => ?_, fun b b' k r s h1 h2 h3 h4 => ?_, fun b b' r1 r2 s1 s2 k h1 h2 h3 h4 h5 h6 h7 => ?_, fun b cs hF => ?_, h'.ext⟩
  · rw [e2]
    obtain ⟨v, h1, h2⟩ := h'.tmp t ht
    exact ⟨v, h1, h2.imp _root_.id (V.den_sub hs)⟩
  · rw [e1] at hF
    obtain ⟨k, vs, h1, h2, h3, h4⟩ := h'.box b cs ty hF
    exact ⟨k, vs, h1, h2, denL_sub hs h3, h4⟩
  · rw [e1] at hF; exact h'.nob b hF
  · rcases rows b r hF with ⟨h1, h2, _⟩ | ⟨i, u, rfl, h1, h2, h3⟩
    · rw [h2]; exact h'.row b r h1
    · exact ⟨u, h3, (hok i u r h1 h2).1.base h.ext.size⟩
  · rw [mkRs_row] at hF
    rw [putL_get, hl]
    split at hF
    · rename_i hin
      exfalso
      rw [List.getElem?_eq_getElem (by omega)] at hF
      cases hF
    · rename_i hin
      rw [if_neg hin]
      exact h.nor b hF
  · have h1' : j.b b = some k := h1
    rcases rows b' r h2 with ⟨g1, g2, _⟩ | ⟨i, u, rfl, g1, g2, g3⟩
    · rw [g2] at h3
      exact h.sep b b' k r s h1' g1 h3 h4
    · rw [g3] at h3; cases h3
      obtain ⟨_, _, _, _, _, _, _, hlt⟩ := h.lt h1'
      have := blk i _ r g1 g2 k (blk_some h4)
      omega
  · rcases rows b r1 h1 with ⟨g1, g2, _⟩ | ⟨i, u, rfl, g1, g2, g3⟩
    · rw [g2] at h4
      rcases rows b' r2 h3 with ⟨q1, q2, _⟩ | ⟨i', u', rfl, q1, q2, q3⟩
      · rw [q2] at h5
        exact h.rsep b b' r1 r2 s1 s2 k g1 h2 q1 h4 h5 h6 h7
      · rw [q3] at h5; cases h5
        obtain ⟨s0, p1, p2⟩ := h.row b r1 g1
        rw [h4] at p1; cases p1
        have := p2.lt k h6
        have := blk i' _ r2 q1 q2 k (blk_some h7)
        omega
    · rw [g3] at h4; cases h4
      rcases rows b' r2 h3 with ⟨q1, q2, _⟩ | ⟨i', u', rfl, q1, q2, q3⟩
      · rw [q2] at h5
        obtain ⟨s0, p1, p2⟩ := h.row b' r2 q1
        rw [h5] at p1; cases p1
        have := p2.lt k h7
        have := blk i _ r1 g1 g2 k (blk_some h6)
        omega
      · rw [q3] at h5; cases h5
        rw [hdis i i' _ _ k g1 q1 (blk_some h6) (blk_some h7)]
  · obtain ⟨k, vs, h1, h2, h3, h4⟩ := h'.fb b cs hF
    exact ⟨k, vs, h1, h2, denL_sub hs h3, h4⟩

theorem Sub.putS {j : J} {nid : Nat} {s : SV} (h : j.s nid = none) : Sub j (j.putS nid s) := ⟨fun _ _ hb => hb, fun b v hb => by
  simp only [J.putS]
  split
  · rename_i e; subst e; rw [h] at hb; cases hb
  · exact hb, fun _ _ hb => hb⟩

theorem Rel.app (h : Rel ρ n X W0 fb F j a w) {w' : World} {nid old : Nat} {r : RowOb} {s s' : SV} (hr : ReOk F nid (.app old r)) (hs : j.s old = some s) (hg : w.grownBy w' s.v.ownBlock) (hok : RowOk ρ W0.heap.size w' s' r) (hblk : s'.v.ownBlock = s.v.ownBlock ∨ s'.v.ownBlock = some w.heap.size) :
    Rel ρ n X W0 fb (F.rws (RE.rs nid (.app old r))) (j.putS nid s') a w' := by
  obtain ⟨⟨q, hq, hown⟩, hro, hnid, hne⟩ := hr
  obtain ⟨hx, hb, hother⟩ := h.turn hq hown hs hg
  have hsub : Sub j (j.putS nid s') := Sub.putS (h.nor nid hnid)
  have rows : ∀ b r', ((F.rw1 (old, none)).rw1 (nid, some r)).row b = some (some r') → (b = nid ∧ r' = r) ∨ (b ≠ nid ∧ b ≠ old ∧ F.row b = some (some r') ∧ (j.putS nid s').s b = j.s b) := by
    intro b r' hF
    simp only [FS.rw1] at hF
    split at hF
    · rename_i e; exact .inl ⟨e, by simpa using hF.symm⟩
    · rename_i e
      split at hF
      · cases hF
      · rename_i e'; exact .inr ⟨e, e', hF, by simp [J.putS, e]⟩
  have snew : (j.putS nid s').s nid = some s' := by simp [J.putS]
  have sold : ∀ b, b ≠ nid → (j.putS nid s').s b = j.s b := fun b e => by simp [J.putS, e]
  show Rel ρ n X W0 fb ((F.rw1 (old, none)).rw1 (nid, some r)) (j.putS nid s') a w'
  refine ⟨h.defers, h.size, fun t ht => ?_, fun i v hi => (h.sav i v hi).imp _root_.id (V.den_sub hsub), fun b cs ty hF => ?_, h.nob, h.inj, fun b r' hF => ?_, fun b hF => ?_, fun b b' k r' s1 h1 h2 h3 h4 => ?_, fun b b' r1 r2 s1 s2 k h1 h2 h3 h4 h5 h6 h7 => ?_, fun b cs hF => ?_, hx⟩
  · obtain ⟨v, h1, h2⟩ := h.tmp t ht
    exact ⟨v, h1, h2.imp _root_.id (V.den_sub hsub)⟩
  · obtain ⟨k, vs, h1, h2, h3, h4⟩ := h.box b cs ty hF
    exact ⟨k, vs, h1, h2, denL_sub hsub h3, by rw [hb b k h1]; exact h4⟩
  · rcases rows b r' hF with ⟨rfl, rfl⟩ | ⟨e1, e2, hF', hs'⟩
    · exact ⟨s', snew, hok⟩
    · rw [hs']
      obtain ⟨s1, h1, h2⟩ := h.row b r' hF'
      exact ⟨s1, h1, h2.kept hg.size (fun k hk => hother b r' s1 k e2 hF' h1 hk)⟩
  · simp only [FS.rw1] at hF
    split at hF
    · cases hF
    · rename_i e
      split at hF
      · cases hF
      · rw [sold b e]; exact h.nor b hF
  · have h1' : j.b b = some k := h1
    obtain ⟨_, _, _, _, _, _, _, hlt⟩ := h.lt h1'
    rcases rows b' r' h2 with ⟨rfl, rfl⟩ | ⟨e1, e2, hF', hs'⟩
    · rw [snew] at h3; cases h3
      rcases hblk with e | e
      · exact h.sep b old k q s h1' hq hs (blk_of hown (e ▸ blk_some h4))
      · have h4 := blk_some h4; rw [e] at h4; cases h4; omega
    · rw [hs'] at h3
      exact h.sep b b' k r' s1 h1' hF' h3 h4
  · rcases rows b r1 h1 with ⟨rfl, rfl⟩ | ⟨e1, e2, hF1, hs1⟩
    · rcases rows b' r2 h3 with ⟨rfl, _⟩ | ⟨e3, e4, hF2, hs2⟩
      · rfl
      · exfalso
        rw [snew] at h4; cases h4
        rw [hs2] at h5
        rcases hblk with e | e
        · exact e4 (h.rsep old b' q r2 s s2 k hq hown hF2 hs h5 (blk_of hown (e ▸ blk_some h6)) h7).symm
        · obtain ⟨s0, p1, p2⟩ := h.row b' r2 hF2
          rw [h5] at p1; cases p1
          have := p2.lt k h7
          have h6 := blk_some h6
          rw [e] at h6; cases h6; omega
    · rw [hs1] at h4
      rcases rows b' r2 h3 with ⟨rfl, _⟩ | ⟨e3, e4, hF2, hs2⟩
      · exfalso
        rw [snew] at h5; cases h5
        rcases hblk with e | e
        · exact e2 (h.rsep b old r1 q s1 s k hF1 h2 hq h4 hs h6 (blk_of hown (e ▸ blk_some h7)))
        · obtain ⟨s0, p1, p2⟩ := h.row b r1 hF1
          rw [h4] at p1; cases p1
          have := p2.lt k h6
          have h7 := blk_some h7
          rw [e] at h7; cases h7; omega
      · rw [hs2] at h5
        exact h.rsep b b' r1 r2 s1 s2 k hF1 h2 hF2 h4 h5 h6 h7
  · obtain ⟨k, vs, h1, h2, h3, h4⟩ := h.fb b cs hF
    refine ⟨k, vs, h1, h2, denL_sub hsub h3, fun o v ho => ?_⟩
    rw [World.cell?_of_block (a := ⟨k, o, none⟩) ((hx.block' k h2).trans (h.ext.block' k h2).symm)]
    exact h4 o v ho

theorem Rel.view (h : Rel ρ n X W0 fb F j a w) {nid old : Nat} {q r : RowOb} {s s' : SV} (hr : ReOk F nid (.view old q r)) (hs : j.s old = some s) (hq : RowOk ρ W0.heap.size w s q) (hok : RowOk ρ W0.heap.size w s' r) (hblk : ∀ k, s'.blk false = some k → s.blk false = some k) :
    Rel ρ n X W0 fb (F.rws (RE.rs nid (.view old q r))) (j.putS nid s') a w := by
  obtain ⟨⟨q0, hq0⟩, hqo, hro, hnid, hne⟩ := hr
  have hsub : Sub j (j.putS nid s') := Sub.putS (h.nor nid hnid)
  have rows : ∀ b r', ((F.rw1 (old, some q)).rw1 (nid, some r)).row b = some (some r') → (b = nid ∧ r' = r) ∨ (b ≠ nid ∧ b = old ∧ r' = q) ∨ (b ≠ nid ∧ b ≠ old ∧ F.row b = some (some r')) := by
    intro b r' hF
    simp only [FS.rw1] at hF
    split at hF
    · rename_i e; exact .inl ⟨e, by simpa using hF.symm⟩
    · rename_i e
      split at hF
      · rename_i e'; exact .inr (.inl ⟨e, e', by simpa using hF.symm⟩)
      · rename_i e'; exact .inr (.inr ⟨e, e', hF⟩)
  have snew : (j.putS nid s').s nid = some s' := by simp [J.putS]
  have sold : ∀ b, b ≠ nid → (j.putS nid s').s b = j.s b := fun b e => by simp [J.putS, e]
  show Rel ρ n X W0 fb ((F.rw1 (old, some q)).rw1 (nid, some r)) (j.putS nid s') a w
  refine ⟨h.defers, h.size, fun t ht => ?_, fun i v hi => (h.sav i v hi).imp _root_.id (V.den_sub hsub), fun b cs ty hF => ?_, h.nob, h.inj, fun b r' hF => ?_, fun b hF => ?_, fun b b' k r' s1 h1 h2 h3 h4 => ?_, fun b b' r1 r2 s1 s2 k h1 h2 h3 h4 h5 h6 h7 => ?_, fun b cs hF => ?_, h.ext⟩
  · obtain ⟨v, h1, h2⟩ := h.tmp t ht
    exact ⟨v, h1, h2.imp _root_.id (V.den_sub hsub)⟩
  · obtain ⟨k, vs, h1, h2, h3, h4⟩ := h.box b cs ty hF
    exact ⟨k, vs, h1, h2, denL_sub hsub h3, h4⟩
  · rcases rows b r' hF with ⟨rfl, rfl⟩ | ⟨e1, rfl, rfl⟩ | ⟨e1, e2, hF'⟩
    · exact ⟨s', snew, hok⟩
    · exact ⟨s, by rw [sold _ e1]; exact hs, hq⟩
    · rw [sold b e1]; exact h.row b r' hF'
  · simp only [FS.rw1] at hF
    split at hF
    · cases hF
    · rename_i e
      split at hF
      · cases hF
      · rw [sold b e]; exact h.nor b hF
  · have h1' : j.b b = some k := h1
    rcases rows b' r' h2 with ⟨rfl, rfl⟩ | ⟨e1, rfl, rfl⟩ | ⟨e1, e2, hF'⟩
    · rw [snew] at h3; cases h3
      exact h.sep b old k q0 s h1' hq0 hs (blk_mono (hblk k (by rw [hro] at h4; exact h4)))
    · rw [sold _ e1, hs] at h3; cases h3
      exact h.sep b _ k q0 s h1' hq0 hs (blk_mono (by rw [hqo] at h4; exact h4))
    · rw [sold b' e1] at h3
      exact h.sep b b' k r' s1 h1' hF' h3 h4
  · rcases rows b r1 h1 with ⟨rfl, rfl⟩ | ⟨e1, rfl, rfl⟩ | ⟨e1, e2, hF1⟩
    · rw [hro] at h2; cases h2
    · rw [hqo] at h2; cases h2
    · rw [sold b e1] at h4
      rcases rows b' r2 h3 with ⟨rfl, rfl⟩ | ⟨e3, rfl, rfl⟩ | ⟨e3, e4, hF2⟩
      · rw [snew] at h5; cases h5
        exact absurd (h.rsep b old r1 q0 s1 s k hF1 h2 hq0 h4 hs h6 (blk_mono (hblk k (by rw [hro] at h7; exact h7)))) e2
      · rw [sold _ e3, hs] at h5; cases h5
        exact h.rsep b _ r1 q0 s1 s k hF1 h2 hq0 h4 hs h6 (blk_mono (by rw [hqo] at h7; exact h7))
      · rw [sold b' e3] at h5
        exact h.rsep b b' r1 r2 s1 s2 k hF1 h2 hF2 h4 h5 h6 h7
  · obtain ⟨k, vs, h1, h2, h3, h4⟩ := h.fb b cs hF
    exact ⟨k, vs, h1, h2, denL_sub hsub h3, h4⟩

/-- What an operation must find as the run has it. -/
structure Sees (n : Nat) (fb : Nat → Option (List C)) (vw : Vw) (o : Oper) (eff : Eff) (F : FS) : Prop where
  ev : ∀ x ∈ o.op.operands.toList, ∀ v, vw.ev x = some v → evF F n x = some v
  rd : ∀ p ∈ eff.rd, ∀ c, vw.ld p.1 p.2 = some c → ldF F p.1 p.2 = some c
  wr : ∀ p ∈ eff.wr, ∃ c, ldF F p.1 p.2.1 = some c
  nw : eff.al ≠ none → F.box vw.nid = none
  rr : ∀ id ∈ eff.rr, ∀ r, vw.rw id = some r → rwF F id = some r
  re : ReOk F vw.nid eff.re
  fb : vw.fb = fb
  one : (eff.al = none ∧ eff.wr = []) ∨ eff.re = .none

theorem ldF_cell (h : Rel ρ n X W0 fb F j a w) {b o : Nat} {c : C} (hc : ldF F b o = some c) : ∃ k v, j.b b = some k ∧ c.den ρ j = some v ∧ w.cell? ⟨k, o, none⟩ = some v ∧ w.frozen? ⟨k, o, none⟩ = false := by
  simp only [ldF, Option.bind_eq_some_iff] at hc
  obtain ⟨x, hx, hc⟩ := hc
  obtain ⟨cs, ty⟩ := x
  obtain ⟨k, vs, h1, h2, h3, h4⟩ := h.box b cs ty hx
  obtain ⟨v, hv, hd⟩ := denL_get h3 o c hc
  exact ⟨k, v, h1, hd, by rw [cell_row h4]; exact hv, frozen_row h4⟩
theorem rwF_row {F : FS} {id : Nat} {r : RowOb} (h : rwF F id = some r) : F.row id = some (some r) := by
  unfold rwF at h
  cases hF : F.row id with
  | none => rw [hF] at h; cases h
  | some x => rw [hF] at h; simp only [Option.bind_some] at h; rw [h]

theorem op_step (h : Rel ρ n X W0 fb F j a w) {vw : Vw} {o : Oper} {eff : Eff} (hok : OpOk P ρ W0.heap.size vw o eff) (hs : Sees n fb vw o eff F) (hd : ∀ d, o.dst = some d → d < n)
    {K : Act → World → Prop} {Q : Exit → Act → World → Prop} (hK : ∀ j' a' w', Rel ρ n X W0 fb (F.app o.dst vw.nid eff) j' a' w' → K a' w') : o.wp P a w K Q := by
  refine hok j a w h.ext.size (fun x hx v hv => h.eval (hs.ev x hx v hv)) (fun p hp c hc => ?_) (fun p hp => ?_) (fun id hid r hr => ?_) (fun b cs hb => ?_) K Q (fun v j' w' hv hdoes => ?_)
  · obtain ⟨k, v, h1, h2, h3, _⟩ := ldF_cell h (hs.rd p hp c hc)
    exact ⟨k, v, h1, h2, h3⟩
  · obtain ⟨c, hc⟩ := hs.wr p hp
    obtain ⟨k, v, h1, _, h3, h4⟩ := ldF_cell h hc
    exact ⟨k, v, h1, h3, h4⟩
  · exact h.row id r (rwF_row (hs.rr id hid r hr))
  · rw [hs.fb] at hb
    obtain ⟨k, vs, h1, h2, h3, h4⟩ := h.fb b cs hb
    exact ⟨k, vs, h1, Nat.lt_of_lt_of_le h2 h.ext.size, h3, h4⟩
  · unfold Does at hdoes
    refine hK j' _ w' ?_
    unfold FS.app
    refine Rel.put ?_ hv hd
    split at hdoes
    · rename_i cs ty hal
      obtain ⟨vs, h1, rfl, rfl⟩ := hdoes
      have hre : eff.re = .none := by
        rcases hs.one with e | e
        · rw [hal] at e; cases e.1
        · exact e
      rw [hal, hre]
      exact h.new h1 (hs.nw (by rw [hal]; simp))
    · rename_i hal
      rw [hal]
      have hre := hs.re
      split at hdoes
      · rename_i hr
        obtain ⟨rfl, w1, h1, h2⟩ := hdoes
        rw [hr]
        exact (h.more h1).wrs h2
      · rename_i id r hr
        have hwr : eff.wr = [] := by
          rcases hs.one with e | e
          · exact e.2
          · rw [hr] at e; cases e
        obtain ⟨rfl, s, h1, h2, h3⟩ := hdoes
        rw [hr] at hre
        rw [hr, hwr]
        exact h.set hre h1 h2 h3
      · rename_i rs hr
        have hwr : eff.wr = [] := by
          rcases hs.one with e | e
          · exact e.2
          · rw [hr] at e; cases e
        obtain ⟨hx, svs, h1, h2, h3, rfl⟩ := hdoes
        rw [hr] at hre
        rw [hr, hwr]
        exact h.made hre hx h1 h2 h3
      · rename_i old r hr
        have hwr : eff.wr = [] := by
          rcases hs.one with e | e
          · exact e.2
          · rw [hr] at e; cases e
        obtain ⟨s, s', h1, h2, h3, h4, rfl⟩ := hdoes
        rw [hr] at hre
        rw [hr, hwr]
        exact h.app hre h1 h2 h3 h4
      · rename_i old q r hr
        have hwr : eff.wr = [] := by
          rcases hs.one with e | e
          · exact e.2
          · rw [hr] at e; cases e
        obtain ⟨rfl, s, s', h1, h2, h3, h4, rfl⟩ := hdoes
        rw [hr] at hre
        rw [hr, hwr]
        exact h.view hre h1 h2 h3 h4
end
end Go.Proofs.Ytoaffiooliclgaa
