/- Records of known bits and scalars whose numbers are in range. -/
import Derived.Test.YtgfghplnankgnaaVaA
set_option linter.unusedVariables false
set_option linter.unusedSimpArgs false
namespace Go.Proofs.Ytgfghplnankgnaa
open Go Go.RowKit
theorem Kn.wf_of {a : Kn} (h : a.ok) : a.wf := ⟨inK_u64 h.1, inK_u64 h.2⟩
structure Sc.wf (a : Sc) : Prop where
  r : a.r.wf
  k : a.k.wf
theorem Sc.wf_of {a : Sc} (h : a.ok) : a.wf := by
  obtain ⟨h1, h2, h3, h4, h5, h6⟩ := h
  exact ⟨⟨inK_u64 h1, inK_u64 h2, inK_i64 h3, inK_i64 h4⟩, ⟨inK_u64 h5, inK_u64 h6⟩⟩
end Go.Proofs.Ytgfghplnankgnaa

