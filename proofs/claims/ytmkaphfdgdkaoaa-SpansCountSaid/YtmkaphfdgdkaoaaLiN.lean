/- live.Run's answer is the least of its kind. No walk is in here. -/
import Derived.Test.YtmkaphfdgdkaoaaLiJ
set_option linter.unusedSimpArgs false
set_option linter.unusedVariables false
set_option linter.unusedVariables false
set_option linter.unusedSimpArgs false
namespace Go.Proofs.Ytmkaphfdgdkaoaa
open Go Go.RowKit

def Low (p : Prog) (I O : List BV) : Prop := ∀ A B, Fix p A B → ∀ i, i < p.l.length → sub (I.getD i 0) (A.getD i 0) ∧ sub (O.getD i 0) (B.getD i 0)
theorem Low.zero (p : Prog) : Low p (List.replicate p.l.length 0) (List.replicate p.l.length 0) := fun A B _ i hi =>
  ⟨fun k h => by simp [hi] at h, fun k h => by simp [hi] at h⟩
theorem Low.stO {p : Prog} {I O : List BV} (hx : ∀ i, i < p.l.length → ∀ m, m ∈ nx p i → m < p.l.length) (h : Low p I O) : Low p I (stO p I O) := fun A B hF i hi => by
  refine ⟨(h A B hF i hi).1, fun k hk => ?_⟩
  rw [stO_at hi] at hk
  rcases (orB_bit _ _ _ _).1 hk with h1 | ⟨m, h1, h2⟩
  · exact (h A B hF i hi).2 k h1
  · rw [hF.oo i hi]
    exact (orB_bit _ _ _ _).2 (.inr ⟨m, h1, (h A B hF m (hx i hi m h1)).1 k h2⟩)
theorem Low.stI {p : Prog} {I O : List BV} (h : Low p I O) : Low p (stI p O) O := fun A B hF i hi => by
  refine ⟨fun k hk => ?_, (h A B hF i hi).2⟩
  rw [stI_at hi] at hk
  rw [hF.ii i hi]
  refine (liB_bit (bit_lt hk)).2 ?_
  rcases (liB_bit (bit_lt hk)).1 hk with ⟨h1, h2⟩ | h1
  · exact .inl ⟨(h A B hF i hi).2 k h1, h2⟩
  · exact .inr h1
theorem iter_low {p : Prog} (hx : ∀ i, i < p.l.length → ∀ m, m ∈ nx p i → m < p.l.length) : ∀ (f : Nat) {I O : List BV}, Low p I O → Low p (iter p f I O).1 (iter p f I O).2
  | 0, _, _, h => h
  | f + 1, I, O, h => by
    unfold iter
    split
    · exact h.stO hx
    · exact iter_low hx f (h.stO hx).stI
theorem lrunB_low {p : Prog} (hx : ∀ i, i < p.l.length → ∀ m, m ∈ nx p i → m < p.l.length) : Low p (lrunB p).1 (lrunB p).2 := iter_low hx _ (.zero p)
theorem sub_anti {a b : BV} (h : sub a b) (h' : sub b a) : a = b :=
  BitVec.eq_of_getLsbD_eq fun k _ => by rw [Bool.eq_iff_iff]; exact ⟨h k, h' k⟩
theorem lists_eq {l m : List BV} (h : l.length = m.length) (hs : ∀ i, i < l.length → l.getD i 0 = m.getD i 0) : l = m := by
  refine List.ext_getElem h fun i h1 h2 => ?_
  have := hs i h1
  simpa [h1, h2] using this
/-- Two answers, each below the other's kind: one answer. -/
theorem lrunB_is {p : Prog} (hl : p.l.length ≤ 64) (hx : ∀ i, i < p.l.length → ∀ m, m ∈ nx p i → m < p.l.length) {I O : List BV} (hF : Fix p I O) (hL : Low p I O) : I = (lrunB p).1 ∧ O = (lrunB p).2 := by
  have h1 := lrunB_fix hl
  have h2 := lrunB_low hx
  exact ⟨lists_eq (by rw [hF.li, h1.li]) fun i hi => sub_anti (hL _ _ h1 i (hF.li ▸ hi)).1 (h2 _ _ hF i (hF.li ▸ hi)).1,
    lists_eq (by rw [hF.lo, h1.lo]) fun i hi => sub_anti (hL _ _ h1 i (hF.lo ▸ hi)).2 (h2 _ _ hF i (hF.lo ▸ hi)).2⟩
end Go.Proofs.Ytmkaphfdgdkaoaa
