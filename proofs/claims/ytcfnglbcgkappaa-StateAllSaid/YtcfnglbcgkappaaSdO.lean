/- The law StateAll, by the symbolic run. -/
import Derived.Test.YtcfnglbcgkappaaSdN
import Derived.Test.YtcfnglbcgkappaaSdI
import Derived.Test.YtcfnglbcgkappaaSdG
import Derived.Test.YtcfnglbcgkappaaSdK
import Derived.Test.YtcfnglbcgkappaaSyR
import Derived.Test.YtcfnglbcgkappaaProg
import Derived.Laws.Externs
set_option linter.unusedVariables false
set_option linter.unusedSimpArgs false
namespace Go.Proofs.Ytcfnglbcgkappaa
open Go.RowKit Go.ChangeShapes Go.WideShapes

set_option maxRecDepth 100000 in
theorem Sta.vm {a : Sta} (ha : Sta.ok a) : ∀ t : Ty, t = a.r0 ∨ t = a.r1 ∨ t = a.r2 ∨ t = a.r3 ∨ t = a.r4 ∨ t = a.r5 ∨ t = a.r6 ∨ t = a.r7 ∨ t = a.r8 ∨ t = a.r9 ∨ t = a.r10 ∨ t = a.s0 ∨ t = a.s1 ∨ t = a.s2 ∨ t = a.s3 ∨ t = a.s4 ∨ t = a.s5 ∨ t = a.s6 ∨ t = a.s7 → inK .u64 t.v = true ∧ inK .u64 t.m = true := by
  obtain ⟨h0, h1, h2, h3, h4, h5, h6, h7, h8, h9, h10, h11, h12, h13, h14, h15, h16, h17, h18⟩ := ha
  rintro t (rfl | rfl | rfl | rfl | rfl | rfl | rfl | rfl | rfl | rfl | rfl | rfl | rfl | rfl | rfl | rfl | rfl | rfl | rfl)
  · exact ⟨h0.2.2.2.2.2.1, h0.2.2.2.2.2.2.1⟩
  · exact ⟨h1.2.2.2.2.2.1, h1.2.2.2.2.2.2.1⟩
  · exact ⟨h2.2.2.2.2.2.1, h2.2.2.2.2.2.2.1⟩
  · exact ⟨h3.2.2.2.2.2.1, h3.2.2.2.2.2.2.1⟩
  · exact ⟨h4.2.2.2.2.2.1, h4.2.2.2.2.2.2.1⟩
  · exact ⟨h5.2.2.2.2.2.1, h5.2.2.2.2.2.2.1⟩
  · exact ⟨h6.2.2.2.2.2.1, h6.2.2.2.2.2.2.1⟩
  · exact ⟨h7.2.2.2.2.2.1, h7.2.2.2.2.2.2.1⟩
  · exact ⟨h8.2.2.2.2.2.1, h8.2.2.2.2.2.2.1⟩
  · exact ⟨h9.2.2.2.2.2.1, h9.2.2.2.2.2.2.1⟩
  · exact ⟨h10.2.2.2.2.2.1, h10.2.2.2.2.2.2.1⟩
  · exact ⟨h11.2.2.2.2.2.1, h11.2.2.2.2.2.2.1⟩
  · exact ⟨h12.2.2.2.2.2.1, h12.2.2.2.2.2.2.1⟩
  · exact ⟨h13.2.2.2.2.2.1, h13.2.2.2.2.2.2.1⟩
  · exact ⟨h14.2.2.2.2.2.1, h14.2.2.2.2.2.2.1⟩
  · exact ⟨h15.2.2.2.2.2.1, h15.2.2.2.2.2.2.1⟩
  · exact ⟨h16.2.2.2.2.2.1, h16.2.2.2.2.2.2.1⟩
  · exact ⟨h17.2.2.2.2.2.1, h17.2.2.2.2.2.2.1⟩
  · exact ⟨h18.2.2.2.2.2.1, h18.2.2.2.2.2.2.1⟩
set_option maxRecDepth 100000 in
theorem shas_of {a : Sta} {x : Snap} (h : smay a = true) (hx : Snap.ok x) : shas (sall a) x = ssome a x.set 11 :=
  shas_all h (inK_u64 (hx.1)) (inK_u64 (hx.2.1)) (inK_u64 (hx.2.2.1)) (inK_u64 (hx.2.2.2.1)) (inK_u64 (hx.2.2.2.2.1)) (inK_u64 (hx.2.2.2.2.2.1)) (inK_u64 (hx.2.2.2.2.2.2.1)) (inK_u64 (hx.2.2.2.2.2.2.2.1)) (inK_u64 (hx.2.2.2.2.2.2.2.2.1)) (inK_u64 (hx.2.2.2.2.2.2.2.2.2.1)) (inK_u64 (hx.2.2.2.2.2.2.2.2.2.2.1)) (w8_u64 (hx.2.2.2.2.2.2.2.2.2.2.2.2.1) (hx.2.2.2.2.2.2.2.2.2.2.2.2.2.1) (hx.2.2.2.2.2.2.2.2.2.2.2.2.2.2.1) (hx.2.2.2.2.2.2.2.2.2.2.2.2.2.2.2.1) (hx.2.2.2.2.2.2.2.2.2.2.2.2.2.2.2.2.1) (hx.2.2.2.2.2.2.2.2.2.2.2.2.2.2.2.2.2.1) (hx.2.2.2.2.2.2.2.2.2.2.2.2.2.2.2.2.2.2.1) (hx.2.2.2.2.2.2.2.2.2.2.2.2.2.2.2.2.2.2.2.1)) (w8_u64 (hx.2.2.2.2.2.2.2.2.2.2.2.2.2.2.2.2.2.2.2.2.1) (hx.2.2.2.2.2.2.2.2.2.2.2.2.2.2.2.2.2.2.2.2.2.1) (hx.2.2.2.2.2.2.2.2.2.2.2.2.2.2.2.2.2.2.2.2.2.2.1) (hx.2.2.2.2.2.2.2.2.2.2.2.2.2.2.2.2.2.2.2.2.2.2.2.1) (hx.2.2.2.2.2.2.2.2.2.2.2.2.2.2.2.2.2.2.2.2.2.2.2.2.1) (hx.2.2.2.2.2.2.2.2.2.2.2.2.2.2.2.2.2.2.2.2.2.2.2.2.2.1) (hx.2.2.2.2.2.2.2.2.2.2.2.2.2.2.2.2.2.2.2.2.2.2.2.2.2.2.1) (hx.2.2.2.2.2.2.2.2.2.2.2.2.2.2.2.2.2.2.2.2.2.2.2.2.2.2.2.1)) (w8_u64 (hx.2.2.2.2.2.2.2.2.2.2.2.2.2.2.2.2.2.2.2.2.2.2.2.2.2.2.2.2.1) (hx.2.2.2.2.2.2.2.2.2.2.2.2.2.2.2.2.2.2.2.2.2.2.2.2.2.2.2.2.2.1) (hx.2.2.2.2.2.2.2.2.2.2.2.2.2.2.2.2.2.2.2.2.2.2.2.2.2.2.2.2.2.2.1) (hx.2.2.2.2.2.2.2.2.2.2.2.2.2.2.2.2.2.2.2.2.2.2.2.2.2.2.2.2.2.2.2.1) (hx.2.2.2.2.2.2.2.2.2.2.2.2.2.2.2.2.2.2.2.2.2.2.2.2.2.2.2.2.2.2.2.2.1) (hx.2.2.2.2.2.2.2.2.2.2.2.2.2.2.2.2.2.2.2.2.2.2.2.2.2.2.2.2.2.2.2.2.2.1) (hx.2.2.2.2.2.2.2.2.2.2.2.2.2.2.2.2.2.2.2.2.2.2.2.2.2.2.2.2.2.2.2.2.2.2.1) (hx.2.2.2.2.2.2.2.2.2.2.2.2.2.2.2.2.2.2.2.2.2.2.2.2.2.2.2.2.2.2.2.2.2.2.2.1)) (w8_u64 (hx.2.2.2.2.2.2.2.2.2.2.2.2.2.2.2.2.2.2.2.2.2.2.2.2.2.2.2.2.2.2.2.2.2.2.2.2.1) (hx.2.2.2.2.2.2.2.2.2.2.2.2.2.2.2.2.2.2.2.2.2.2.2.2.2.2.2.2.2.2.2.2.2.2.2.2.2.1) (hx.2.2.2.2.2.2.2.2.2.2.2.2.2.2.2.2.2.2.2.2.2.2.2.2.2.2.2.2.2.2.2.2.2.2.2.2.2.2.1) (hx.2.2.2.2.2.2.2.2.2.2.2.2.2.2.2.2.2.2.2.2.2.2.2.2.2.2.2.2.2.2.2.2.2.2.2.2.2.2.2.1) (hx.2.2.2.2.2.2.2.2.2.2.2.2.2.2.2.2.2.2.2.2.2.2.2.2.2.2.2.2.2.2.2.2.2.2.2.2.2.2.2.2.1) (hx.2.2.2.2.2.2.2.2.2.2.2.2.2.2.2.2.2.2.2.2.2.2.2.2.2.2.2.2.2.2.2.2.2.2.2.2.2.2.2.2.2.1) (hx.2.2.2.2.2.2.2.2.2.2.2.2.2.2.2.2.2.2.2.2.2.2.2.2.2.2.2.2.2.2.2.2.2.2.2.2.2.2.2.2.2.2.1) (hx.2.2.2.2.2.2.2.2.2.2.2.2.2.2.2.2.2.2.2.2.2.2.2.2.2.2.2.2.2.2.2.2.2.2.2.2.2.2.2.2.2.2.2.1)) (w8_u64 (hx.2.2.2.2.2.2.2.2.2.2.2.2.2.2.2.2.2.2.2.2.2.2.2.2.2.2.2.2.2.2.2.2.2.2.2.2.2.2.2.2.2.2.2.2.1) (hx.2.2.2.2.2.2.2.2.2.2.2.2.2.2.2.2.2.2.2.2.2.2.2.2.2.2.2.2.2.2.2.2.2.2.2.2.2.2.2.2.2.2.2.2.2.1) (hx.2.2.2.2.2.2.2.2.2.2.2.2.2.2.2.2.2.2.2.2.2.2.2.2.2.2.2.2.2.2.2.2.2.2.2.2.2.2.2.2.2.2.2.2.2.2.1) (hx.2.2.2.2.2.2.2.2.2.2.2.2.2.2.2.2.2.2.2.2.2.2.2.2.2.2.2.2.2.2.2.2.2.2.2.2.2.2.2.2.2.2.2.2.2.2.2.1) (hx.2.2.2.2.2.2.2.2.2.2.2.2.2.2.2.2.2.2.2.2.2.2.2.2.2.2.2.2.2.2.2.2.2.2.2.2.2.2.2.2.2.2.2.2.2.2.2.2.1) (hx.2.2.2.2.2.2.2.2.2.2.2.2.2.2.2.2.2.2.2.2.2.2.2.2.2.2.2.2.2.2.2.2.2.2.2.2.2.2.2.2.2.2.2.2.2.2.2.2.2.1) (hx.2.2.2.2.2.2.2.2.2.2.2.2.2.2.2.2.2.2.2.2.2.2.2.2.2.2.2.2.2.2.2.2.2.2.2.2.2.2.2.2.2.2.2.2.2.2.2.2.2.2.1) (hx.2.2.2.2.2.2.2.2.2.2.2.2.2.2.2.2.2.2.2.2.2.2.2.2.2.2.2.2.2.2.2.2.2.2.2.2.2.2.2.2.2.2.2.2.2.2.2.2.2.2.2.1)) (w8_u64 (hx.2.2.2.2.2.2.2.2.2.2.2.2.2.2.2.2.2.2.2.2.2.2.2.2.2.2.2.2.2.2.2.2.2.2.2.2.2.2.2.2.2.2.2.2.2.2.2.2.2.2.2.2.1) (hx.2.2.2.2.2.2.2.2.2.2.2.2.2.2.2.2.2.2.2.2.2.2.2.2.2.2.2.2.2.2.2.2.2.2.2.2.2.2.2.2.2.2.2.2.2.2.2.2.2.2.2.2.2.1) (hx.2.2.2.2.2.2.2.2.2.2.2.2.2.2.2.2.2.2.2.2.2.2.2.2.2.2.2.2.2.2.2.2.2.2.2.2.2.2.2.2.2.2.2.2.2.2.2.2.2.2.2.2.2.2.1) (hx.2.2.2.2.2.2.2.2.2.2.2.2.2.2.2.2.2.2.2.2.2.2.2.2.2.2.2.2.2.2.2.2.2.2.2.2.2.2.2.2.2.2.2.2.2.2.2.2.2.2.2.2.2.2.2.1) (hx.2.2.2.2.2.2.2.2.2.2.2.2.2.2.2.2.2.2.2.2.2.2.2.2.2.2.2.2.2.2.2.2.2.2.2.2.2.2.2.2.2.2.2.2.2.2.2.2.2.2.2.2.2.2.2.2.1) (hx.2.2.2.2.2.2.2.2.2.2.2.2.2.2.2.2.2.2.2.2.2.2.2.2.2.2.2.2.2.2.2.2.2.2.2.2.2.2.2.2.2.2.2.2.2.2.2.2.2.2.2.2.2.2.2.2.2.1) (hx.2.2.2.2.2.2.2.2.2.2.2.2.2.2.2.2.2.2.2.2.2.2.2.2.2.2.2.2.2.2.2.2.2.2.2.2.2.2.2.2.2.2.2.2.2.2.2.2.2.2.2.2.2.2.2.2.2.2.1) (hx.2.2.2.2.2.2.2.2.2.2.2.2.2.2.2.2.2.2.2.2.2.2.2.2.2.2.2.2.2.2.2.2.2.2.2.2.2.2.2.2.2.2.2.2.2.2.2.2.2.2.2.2.2.2.2.2.2.2.2.1)) (w8_u64 (hx.2.2.2.2.2.2.2.2.2.2.2.2.2.2.2.2.2.2.2.2.2.2.2.2.2.2.2.2.2.2.2.2.2.2.2.2.2.2.2.2.2.2.2.2.2.2.2.2.2.2.2.2.2.2.2.2.2.2.2.2.1) (hx.2.2.2.2.2.2.2.2.2.2.2.2.2.2.2.2.2.2.2.2.2.2.2.2.2.2.2.2.2.2.2.2.2.2.2.2.2.2.2.2.2.2.2.2.2.2.2.2.2.2.2.2.2.2.2.2.2.2.2.2.2.1) (hx.2.2.2.2.2.2.2.2.2.2.2.2.2.2.2.2.2.2.2.2.2.2.2.2.2.2.2.2.2.2.2.2.2.2.2.2.2.2.2.2.2.2.2.2.2.2.2.2.2.2.2.2.2.2.2.2.2.2.2.2.2.2.1) (hx.2.2.2.2.2.2.2.2.2.2.2.2.2.2.2.2.2.2.2.2.2.2.2.2.2.2.2.2.2.2.2.2.2.2.2.2.2.2.2.2.2.2.2.2.2.2.2.2.2.2.2.2.2.2.2.2.2.2.2.2.2.2.2.1) (hx.2.2.2.2.2.2.2.2.2.2.2.2.2.2.2.2.2.2.2.2.2.2.2.2.2.2.2.2.2.2.2.2.2.2.2.2.2.2.2.2.2.2.2.2.2.2.2.2.2.2.2.2.2.2.2.2.2.2.2.2.2.2.2.2.1) (hx.2.2.2.2.2.2.2.2.2.2.2.2.2.2.2.2.2.2.2.2.2.2.2.2.2.2.2.2.2.2.2.2.2.2.2.2.2.2.2.2.2.2.2.2.2.2.2.2.2.2.2.2.2.2.2.2.2.2.2.2.2.2.2.2.2.1) (hx.2.2.2.2.2.2.2.2.2.2.2.2.2.2.2.2.2.2.2.2.2.2.2.2.2.2.2.2.2.2.2.2.2.2.2.2.2.2.2.2.2.2.2.2.2.2.2.2.2.2.2.2.2.2.2.2.2.2.2.2.2.2.2.2.2.2.1) (hx.2.2.2.2.2.2.2.2.2.2.2.2.2.2.2.2.2.2.2.2.2.2.2.2.2.2.2.2.2.2.2.2.2.2.2.2.2.2.2.2.2.2.2.2.2.2.2.2.2.2.2.2.2.2.2.2.2.2.2.2.2.2.2.2.2.2.2.1)) (w8_u64 (hx.2.2.2.2.2.2.2.2.2.2.2.2.2.2.2.2.2.2.2.2.2.2.2.2.2.2.2.2.2.2.2.2.2.2.2.2.2.2.2.2.2.2.2.2.2.2.2.2.2.2.2.2.2.2.2.2.2.2.2.2.2.2.2.2.2.2.2.2.1) (hx.2.2.2.2.2.2.2.2.2.2.2.2.2.2.2.2.2.2.2.2.2.2.2.2.2.2.2.2.2.2.2.2.2.2.2.2.2.2.2.2.2.2.2.2.2.2.2.2.2.2.2.2.2.2.2.2.2.2.2.2.2.2.2.2.2.2.2.2.2.1) (hx.2.2.2.2.2.2.2.2.2.2.2.2.2.2.2.2.2.2.2.2.2.2.2.2.2.2.2.2.2.2.2.2.2.2.2.2.2.2.2.2.2.2.2.2.2.2.2.2.2.2.2.2.2.2.2.2.2.2.2.2.2.2.2.2.2.2.2.2.2.2.1) (hx.2.2.2.2.2.2.2.2.2.2.2.2.2.2.2.2.2.2.2.2.2.2.2.2.2.2.2.2.2.2.2.2.2.2.2.2.2.2.2.2.2.2.2.2.2.2.2.2.2.2.2.2.2.2.2.2.2.2.2.2.2.2.2.2.2.2.2.2.2.2.2.1) (hx.2.2.2.2.2.2.2.2.2.2.2.2.2.2.2.2.2.2.2.2.2.2.2.2.2.2.2.2.2.2.2.2.2.2.2.2.2.2.2.2.2.2.2.2.2.2.2.2.2.2.2.2.2.2.2.2.2.2.2.2.2.2.2.2.2.2.2.2.2.2.2.2.1) (hx.2.2.2.2.2.2.2.2.2.2.2.2.2.2.2.2.2.2.2.2.2.2.2.2.2.2.2.2.2.2.2.2.2.2.2.2.2.2.2.2.2.2.2.2.2.2.2.2.2.2.2.2.2.2.2.2.2.2.2.2.2.2.2.2.2.2.2.2.2.2.2.2.2.1) (hx.2.2.2.2.2.2.2.2.2.2.2.2.2.2.2.2.2.2.2.2.2.2.2.2.2.2.2.2.2.2.2.2.2.2.2.2.2.2.2.2.2.2.2.2.2.2.2.2.2.2.2.2.2.2.2.2.2.2.2.2.2.2.2.2.2.2.2.2.2.2.2.2.2.2.1) (hx.2.2.2.2.2.2.2.2.2.2.2.2.2.2.2.2.2.2.2.2.2.2.2.2.2.2.2.2.2.2.2.2.2.2.2.2.2.2.2.2.2.2.2.2.2.2.2.2.2.2.2.2.2.2.2.2.2.2.2.2.2.2.2.2.2.2.2.2.2.2.2.2.2.2.2))
theorem few {a b : Sta} (ha : Sta.ok a) (h : smay a = true) (q0 : b.r0 = a.r0 ∨ b.r0 = tnil) (q1 : b.r1 = a.r1 ∨ b.r1 = tnil) (q2 : b.r2 = a.r2 ∨ b.r2 = tnil) (q3 : b.r3 = a.r3 ∨ b.r3 = tnil) (q4 : b.r4 = a.r4 ∨ b.r4 = tnil) (q5 : b.r5 = a.r5 ∨ b.r5 = tnil) (q6 : b.r6 = a.r6 ∨ b.r6 = tnil) (q7 : b.r7 = a.r7 ∨ b.r7 = tnil) (q8 : b.r8 = a.r8 ∨ b.r8 = tnil) (q9 : b.r9 = a.r9 ∨ b.r9 = tnil) (q10 : b.r10 = a.r10 ∨ b.r10 = tnil) : sin a ⟨b.r0, b.r1, b.r2, b.r3, b.r4, b.r5, b.r6, b.r7, b.r8, b.r9, b.r10, a.s0, a.s1, a.s2, a.s3, a.s4, a.s5, a.s6, a.s7⟩ = true ∧ ∀ x, shas a x = true → shas ⟨b.r0, b.r1, b.r2, b.r3, b.r4, b.r5, b.r6, b.r7, b.r8, b.r9, b.r10, a.s0, a.s1, a.s2, a.s3, a.s4, a.s5, a.s6, a.s7⟩ x = true := fewer_in h (Sta.vm ha) q0 q1 q2 q3 q4 q5 q6 q7 q8 q9 q10 ⟨rfl, rfl, rfl, rfl, rfl, rfl, rfl, rfl⟩
theorem pick11 {n : Int} {p : Prop} (h0 : (opI .rem .i64 (opI .add .i64 (opI .rem .i64 n 11) 11) 11 == 0) = false) (h1 : (opI .rem .i64 (opI .add .i64 (opI .rem .i64 n 11) 11) 11 == 1) = false) (h2 : (opI .rem .i64 (opI .add .i64 (opI .rem .i64 n 11) 11) 11 == 2) = false) (h3 : (opI .rem .i64 (opI .add .i64 (opI .rem .i64 n 11) 11) 11 == 3) = false) (h4 : (opI .rem .i64 (opI .add .i64 (opI .rem .i64 n 11) 11) 11 == 4) = false) (h5 : (opI .rem .i64 (opI .add .i64 (opI .rem .i64 n 11) 11) 11 == 5) = false) (h6 : (opI .rem .i64 (opI .add .i64 (opI .rem .i64 n 11) 11) 11 == 6) = false) (h7 : (opI .rem .i64 (opI .add .i64 (opI .rem .i64 n 11) 11) 11 == 7) = false) (h8 : (opI .rem .i64 (opI .add .i64 (opI .rem .i64 n 11) 11) 11 == 8) = false) (h9 : (opI .rem .i64 (opI .add .i64 (opI .rem .i64 n 11) 11) 11 == 9) = false) (h10 : (opI .rem .i64 (opI .add .i64 (opI .rem .i64 n 11) 11) 11 == 10) = false) : p := by
  have := mod11 n
  simp only [beq_eq_false_iff_ne] at h0 h1 h2 h3 h4 h5 h6 h7 h8 h9 h10
  omega
def z_Sta : List C := repC z_Ty 11 ++ (repC z_Ty 8 ++ [])
theorem grd_Sta : Try.prog.eqGuardType Try.prog.depth 35 = false := by kernel_rfl
set_option maxRecDepth 100000 in
theorem klA11 : Kl Try.prog 7 32 (repC z_Ty 11) := Kl.array (d := 6) (fun vs hv => kl_Ty vs hv) Try.underlying32 (by kernel_rfl) (by kernel_rfl)
set_option maxRecDepth 100000 in
theorem klA8 : Kl Try.prog 7 33 (repC z_Ty 8) := Kl.array (d := 6) (fun vs hv => kl_Ty vs hv) Try.underlying33 (by kernel_rfl) (by kernel_rfl)
set_option maxRecDepth 100000 in
theorem kl_Sta : Kl Try.prog 8 35 z_Sta := Kl.struct (KlSeq.cons klA11 (by rfl) (by kernel_rfl) (KlSeq.cons klA8 (by rfl) (by kernel_rfl) (KlSeq.nil _ _ _))) Try.underlying35 (by kernel_rfl) (by kernel_rfl)
set_option maxRecDepth 100000 in
theorem fm_Sta (vs : List Value) (hv : kindsV vs z_Sta) : (Value.agg vs.toArray).formed Try.prog 35 = true := formed_of Try.underlying35 (by kernel_rfl) vs hv
set_option maxRecDepth 100000 in
theorem eq_Sta (vs us : List Value) (hv : kindsV vs z_Sta) (hu : kindsV us z_Sta) (w : World) : (Op.equal 35 (.agg vs.toArray) (.agg us.toArray)).run Try.prog w = .ok (eqVs vs us) w :=
  eq_of_keys (by kernel_rfl) fm_Sta 8 (fun vs hv => kl_Sta vs hv) vs us hv hu w
def tys_SdO : List (Nat × TI) := [(2, ⟨false, 1, [.int .i64 (.lit 0)], [], none, some .i64, false, false, none, 8, false⟩),
 (3, ⟨false, 1, [.int .i64 (.lit 0)], [], none, some .i64, false, false, none, 8, false⟩),
 (4, ⟨false, 1, [.bool (.tt false)], [], none, none, false, true, none, 1, false⟩),
 (5, ⟨false, 1, [.int .u8 (.lit 0)], [], none, some .u8, false, false, none, 1, false⟩),
 (22, ⟨false, 1, [.int .i8 (.lit 0)], [], none, some .i8, false, false, none, 1, false⟩),
 (23, ⟨false, 1, [.int .u64 (.lit 0)], [], none, some .u64, false, false, none, 8, false⟩),
 (25, ⟨true, 4, [.int .u64 (.lit 0), .int .u64 (.lit 0), .int .i64 (.lit 0), .int .i64 (.lit 0)], [(0, 23), (1, 23), (2, 2), (3, 2)], none, none, false, false, none, 32, false⟩),
 (27, ⟨true, 2, [.int .u64 (.lit 0), .int .u64 (.lit 0)], [(0, 23), (1, 23)], none, none, false, false, none, 16, false⟩),
 (29, ⟨true, 6, [.int .u64 (.lit 0), .int .u64 (.lit 0), .int .i64 (.lit 0), .int .i64 (.lit 0), .int .u64 (.lit 0), .int .u64 (.lit 0)], [(0, 25), (4, 27)], none, none, true, false, none, 48, false⟩),
 (31, ⟨true, 9, [.int .i8 (.lit 0), .int .u64 (.lit 0), .int .u64 (.lit 0), .int .i64 (.lit 0), .int .i64 (.lit 0), .int .u64 (.lit 0), .int .u64 (.lit 0), .int .i64 (.lit 0), .int .i64 (.lit 0)], [(0, 22), (1, 29), (7, 3), (8, 3)], none, none, true, false, none, 72, false⟩),
 (32, ⟨true, 99, [.int .i8 (.lit 0), .int .u64 (.lit 0), .int .u64 (.lit 0), .int .i64 (.lit 0), .int .i64 (.lit 0), .int .u64 (.lit 0), .int .u64 (.lit 0), .int .i64 (.lit 0), .int .i64 (.lit 0), .int .i8 (.lit 0), .int .u64 (.lit 0), .int .u64 (.lit 0), .int .i64 (.lit 0), .int .i64 (.lit 0), .int .u64 (.lit 0), .int .u64 (.lit 0), .int .i64 (.lit 0), .int .i64 (.lit 0), .int .i8 (.lit 0), .int .u64 (.lit 0), .int .u64 (.lit 0), .int .i64 (.lit 0), .int .i64 (.lit 0), .int .u64 (.lit 0), .int .u64 (.lit 0), .int .i64 (.lit 0), .int .i64 (.lit 0), .int .i8 (.lit 0), .int .u64 (.lit 0), .int .u64 (.lit 0), .int .i64 (.lit 0), .int .i64 (.lit 0), .int .u64 (.lit 0), .int .u64 (.lit 0), .int .i64 (.lit 0), .int .i64 (.lit 0), .int .i8 (.lit 0), .int .u64 (.lit 0), .int .u64 (.lit 0), .int .i64 (.lit 0), .int .i64 (.lit 0), .int .u64 (.lit 0), .int .u64 (.lit 0), .int .i64 (.lit 0), .int .i64 (.lit 0), .int .i8 (.lit 0), .int .u64 (.lit 0), .int .u64 (.lit 0), .int .i64 (.lit 0), .int .i64 (.lit 0), .int .u64 (.lit 0), .int .u64 (.lit 0), .int .i64 (.lit 0), .int .i64 (.lit 0), .int .i8 (.lit 0), .int .u64 (.lit 0), .int .u64 (.lit 0), .int .i64 (.lit 0), .int .i64 (.lit 0), .int .u64 (.lit 0), .int .u64 (.lit 0), .int .i64 (.lit 0), .int .i64 (.lit 0), .int .i8 (.lit 0), .int .u64 (.lit 0), .int .u64 (.lit 0), .int .i64 (.lit 0), .int .i64 (.lit 0), .int .u64 (.lit 0), .int .u64 (.lit 0), .int .i64 (.lit 0), .int .i64 (.lit 0), .int .i8 (.lit 0), .int .u64 (.lit 0), .int .u64 (.lit 0), .int .i64 (.lit 0), .int .i64 (.lit 0), .int .u64 (.lit 0), .int .u64 (.lit 0), .int .i64 (.lit 0), .int .i64 (.lit 0), .int .i8 (.lit 0), .int .u64 (.lit 0), .int .u64 (.lit 0), .int .i64 (.lit 0), .int .i64 (.lit 0), .int .u64 (.lit 0), .int .u64 (.lit 0), .int .i64 (.lit 0), .int .i64 (.lit 0), .int .i8 (.lit 0), .int .u64 (.lit 0), .int .u64 (.lit 0), .int .i64 (.lit 0), .int .i64 (.lit 0), .int .u64 (.lit 0), .int .u64 (.lit 0), .int .i64 (.lit 0), .int .i64 (.lit 0)], [], some (11, 31), none, false, false, none, 792, false⟩),
 (33, ⟨true, 72, [.int .i8 (.lit 0), .int .u64 (.lit 0), .int .u64 (.lit 0), .int .i64 (.lit 0), .int .i64 (.lit 0), .int .u64 (.lit 0), .int .u64 (.lit 0), .int .i64 (.lit 0), .int .i64 (.lit 0), .int .i8 (.lit 0), .int .u64 (.lit 0), .int .u64 (.lit 0), .int .i64 (.lit 0), .int .i64 (.lit 0), .int .u64 (.lit 0), .int .u64 (.lit 0), .int .i64 (.lit 0), .int .i64 (.lit 0), .int .i8 (.lit 0), .int .u64 (.lit 0), .int .u64 (.lit 0), .int .i64 (.lit 0), .int .i64 (.lit 0), .int .u64 (.lit 0), .int .u64 (.lit 0), .int .i64 (.lit 0), .int .i64 (.lit 0), .int .i8 (.lit 0), .int .u64 (.lit 0), .int .u64 (.lit 0), .int .i64 (.lit 0), .int .i64 (.lit 0), .int .u64 (.lit 0), .int .u64 (.lit 0), .int .i64 (.lit 0), .int .i64 (.lit 0), .int .i8 (.lit 0), .int .u64 (.lit 0), .int .u64 (.lit 0), .int .i64 (.lit 0), .int .i64 (.lit 0), .int .u64 (.lit 0), .int .u64 (.lit 0), .int .i64 (.lit 0), .int .i64 (.lit 0), .int .i8 (.lit 0), .int .u64 (.lit 0), .int .u64 (.lit 0), .int .i64 (.lit 0), .int .i64 (.lit 0), .int .u64 (.lit 0), .int .u64 (.lit 0), .int .i64 (.lit 0), .int .i64 (.lit 0), .int .i8 (.lit 0), .int .u64 (.lit 0), .int .u64 (.lit 0), .int .i64 (.lit 0), .int .i64 (.lit 0), .int .u64 (.lit 0), .int .u64 (.lit 0), .int .i64 (.lit 0), .int .i64 (.lit 0), .int .i8 (.lit 0), .int .u64 (.lit 0), .int .u64 (.lit 0), .int .i64 (.lit 0), .int .i64 (.lit 0), .int .u64 (.lit 0), .int .u64 (.lit 0), .int .i64 (.lit 0), .int .i64 (.lit 0)], [], some (8, 31), none, false, false, none, 576, false⟩),
 (35, ⟨true, 171, [.int .i8 (.lit 0), .int .u64 (.lit 0), .int .u64 (.lit 0), .int .i64 (.lit 0), .int .i64 (.lit 0), .int .u64 (.lit 0), .int .u64 (.lit 0), .int .i64 (.lit 0), .int .i64 (.lit 0), .int .i8 (.lit 0), .int .u64 (.lit 0), .int .u64 (.lit 0), .int .i64 (.lit 0), .int .i64 (.lit 0), .int .u64 (.lit 0), .int .u64 (.lit 0), .int .i64 (.lit 0), .int .i64 (.lit 0), .int .i8 (.lit 0), .int .u64 (.lit 0), .int .u64 (.lit 0), .int .i64 (.lit 0), .int .i64 (.lit 0), .int .u64 (.lit 0), .int .u64 (.lit 0), .int .i64 (.lit 0), .int .i64 (.lit 0), .int .i8 (.lit 0), .int .u64 (.lit 0), .int .u64 (.lit 0), .int .i64 (.lit 0), .int .i64 (.lit 0), .int .u64 (.lit 0), .int .u64 (.lit 0), .int .i64 (.lit 0), .int .i64 (.lit 0), .int .i8 (.lit 0), .int .u64 (.lit 0), .int .u64 (.lit 0), .int .i64 (.lit 0), .int .i64 (.lit 0), .int .u64 (.lit 0), .int .u64 (.lit 0), .int .i64 (.lit 0), .int .i64 (.lit 0), .int .i8 (.lit 0), .int .u64 (.lit 0), .int .u64 (.lit 0), .int .i64 (.lit 0), .int .i64 (.lit 0), .int .u64 (.lit 0), .int .u64 (.lit 0), .int .i64 (.lit 0), .int .i64 (.lit 0), .int .i8 (.lit 0), .int .u64 (.lit 0), .int .u64 (.lit 0), .int .i64 (.lit 0), .int .i64 (.lit 0), .int .u64 (.lit 0), .int .u64 (.lit 0), .int .i64 (.lit 0), .int .i64 (.lit 0), .int .i8 (.lit 0), .int .u64 (.lit 0), .int .u64 (.lit 0), .int .i64 (.lit 0), .int .i64 (.lit 0), .int .u64 (.lit 0), .int .u64 (.lit 0), .int .i64 (.lit 0), .int .i64 (.lit 0), .int .i8 (.lit 0), .int .u64 (.lit 0), .int .u64 (.lit 0), .int .i64 (.lit 0), .int .i64 (.lit 0), .int .u64 (.lit 0), .int .u64 (.lit 0), .int .i64 (.lit 0), .int .i64 (.lit 0), .int .i8 (.lit 0), .int .u64 (.lit 0), .int .u64 (.lit 0), .int .i64 (.lit 0), .int .i64 (.lit 0), .int .u64 (.lit 0), .int .u64 (.lit 0), .int .i64 (.lit 0), .int .i64 (.lit 0), .int .i8 (.lit 0), .int .u64 (.lit 0), .int .u64 (.lit 0), .int .i64 (.lit 0), .int .i64 (.lit 0), .int .u64 (.lit 0), .int .u64 (.lit 0), .int .i64 (.lit 0), .int .i64 (.lit 0), .int .i8 (.lit 0), .int .u64 (.lit 0), .int .u64 (.lit 0), .int .i64 (.lit 0), .int .i64 (.lit 0), .int .u64 (.lit 0), .int .u64 (.lit 0), .int .i64 (.lit 0), .int .i64 (.lit 0), .int .i8 (.lit 0), .int .u64 (.lit 0), .int .u64 (.lit 0), .int .i64 (.lit 0), .int .i64 (.lit 0), .int .u64 (.lit 0), .int .u64 (.lit 0), .int .i64 (.lit 0), .int .i64 (.lit 0), .int .i8 (.lit 0), .int .u64 (.lit 0), .int .u64 (.lit 0), .int .i64 (.lit 0), .int .i64 (.lit 0), .int .u64 (.lit 0), .int .u64 (.lit 0), .int .i64 (.lit 0), .int .i64 (.lit 0), .int .i8 (.lit 0), .int .u64 (.lit 0), .int .u64 (.lit 0), .int .i64 (.lit 0), .int .i64 (.lit 0), .int .u64 (.lit 0), .int .u64 (.lit 0), .int .i64 (.lit 0), .int .i64 (.lit 0), .int .i8 (.lit 0), .int .u64 (.lit 0), .int .u64 (.lit 0), .int .i64 (.lit 0), .int .i64 (.lit 0), .int .u64 (.lit 0), .int .u64 (.lit 0), .int .i64 (.lit 0), .int .i64 (.lit 0), .int .i8 (.lit 0), .int .u64 (.lit 0), .int .u64 (.lit 0), .int .i64 (.lit 0), .int .i64 (.lit 0), .int .u64 (.lit 0), .int .u64 (.lit 0), .int .i64 (.lit 0), .int .i64 (.lit 0), .int .i8 (.lit 0), .int .u64 (.lit 0), .int .u64 (.lit 0), .int .i64 (.lit 0), .int .i64 (.lit 0), .int .u64 (.lit 0), .int .u64 (.lit 0), .int .i64 (.lit 0), .int .i64 (.lit 0), .int .i8 (.lit 0), .int .u64 (.lit 0), .int .u64 (.lit 0), .int .i64 (.lit 0), .int .i64 (.lit 0), .int .u64 (.lit 0), .int .u64 (.lit 0), .int .i64 (.lit 0), .int .i64 (.lit 0)], [(0, 32), (99, 33)], none, none, true, false, none, 1368, false⟩),
 (41, ⟨true, 11, [.int .u64 (.lit 0), .int .u64 (.lit 0), .int .u64 (.lit 0), .int .u64 (.lit 0), .int .u64 (.lit 0), .int .u64 (.lit 0), .int .u64 (.lit 0), .int .u64 (.lit 0), .int .u64 (.lit 0), .int .u64 (.lit 0), .int .u64 (.lit 0)], [], some (11, 23), none, false, false, none, 88, false⟩),
 (42, ⟨true, 64, [.int .u8 (.lit 0), .int .u8 (.lit 0), .int .u8 (.lit 0), .int .u8 (.lit 0), .int .u8 (.lit 0), .int .u8 (.lit 0), .int .u8 (.lit 0), .int .u8 (.lit 0), .int .u8 (.lit 0), .int .u8 (.lit 0), .int .u8 (.lit 0), .int .u8 (.lit 0), .int .u8 (.lit 0), .int .u8 (.lit 0), .int .u8 (.lit 0), .int .u8 (.lit 0), .int .u8 (.lit 0), .int .u8 (.lit 0), .int .u8 (.lit 0), .int .u8 (.lit 0), .int .u8 (.lit 0), .int .u8 (.lit 0), .int .u8 (.lit 0), .int .u8 (.lit 0), .int .u8 (.lit 0), .int .u8 (.lit 0), .int .u8 (.lit 0), .int .u8 (.lit 0), .int .u8 (.lit 0), .int .u8 (.lit 0), .int .u8 (.lit 0), .int .u8 (.lit 0), .int .u8 (.lit 0), .int .u8 (.lit 0), .int .u8 (.lit 0), .int .u8 (.lit 0), .int .u8 (.lit 0), .int .u8 (.lit 0), .int .u8 (.lit 0), .int .u8 (.lit 0), .int .u8 (.lit 0), .int .u8 (.lit 0), .int .u8 (.lit 0), .int .u8 (.lit 0), .int .u8 (.lit 0), .int .u8 (.lit 0), .int .u8 (.lit 0), .int .u8 (.lit 0), .int .u8 (.lit 0), .int .u8 (.lit 0), .int .u8 (.lit 0), .int .u8 (.lit 0), .int .u8 (.lit 0), .int .u8 (.lit 0), .int .u8 (.lit 0), .int .u8 (.lit 0), .int .u8 (.lit 0), .int .u8 (.lit 0), .int .u8 (.lit 0), .int .u8 (.lit 0), .int .u8 (.lit 0), .int .u8 (.lit 0), .int .u8 (.lit 0), .int .u8 (.lit 0)], [], some (64, 5), none, false, false, none, 64, false⟩),
 (44, ⟨true, 76, [.int .u64 (.lit 0), .int .u64 (.lit 0), .int .u64 (.lit 0), .int .u64 (.lit 0), .int .u64 (.lit 0), .int .u64 (.lit 0), .int .u64 (.lit 0), .int .u64 (.lit 0), .int .u64 (.lit 0), .int .u64 (.lit 0), .int .u64 (.lit 0), .int .i64 (.lit 0), .int .u8 (.lit 0), .int .u8 (.lit 0), .int .u8 (.lit 0), .int .u8 (.lit 0), .int .u8 (.lit 0), .int .u8 (.lit 0), .int .u8 (.lit 0), .int .u8 (.lit 0), .int .u8 (.lit 0), .int .u8 (.lit 0), .int .u8 (.lit 0), .int .u8 (.lit 0), .int .u8 (.lit 0), .int .u8 (.lit 0), .int .u8 (.lit 0), .int .u8 (.lit 0), .int .u8 (.lit 0), .int .u8 (.lit 0), .int .u8 (.lit 0), .int .u8 (.lit 0), .int .u8 (.lit 0), .int .u8 (.lit 0), .int .u8 (.lit 0), .int .u8 (.lit 0), .int .u8 (.lit 0), .int .u8 (.lit 0), .int .u8 (.lit 0), .int .u8 (.lit 0), .int .u8 (.lit 0), .int .u8 (.lit 0), .int .u8 (.lit 0), .int .u8 (.lit 0), .int .u8 (.lit 0), .int .u8 (.lit 0), .int .u8 (.lit 0), .int .u8 (.lit 0), .int .u8 (.lit 0), .int .u8 (.lit 0), .int .u8 (.lit 0), .int .u8 (.lit 0), .int .u8 (.lit 0), .int .u8 (.lit 0), .int .u8 (.lit 0), .int .u8 (.lit 0), .int .u8 (.lit 0), .int .u8 (.lit 0), .int .u8 (.lit 0), .int .u8 (.lit 0), .int .u8 (.lit 0), .int .u8 (.lit 0), .int .u8 (.lit 0), .int .u8 (.lit 0), .int .u8 (.lit 0), .int .u8 (.lit 0), .int .u8 (.lit 0), .int .u8 (.lit 0), .int .u8 (.lit 0), .int .u8 (.lit 0), .int .u8 (.lit 0), .int .u8 (.lit 0), .int .u8 (.lit 0), .int .u8 (.lit 0), .int .u8 (.lit 0), .int .u8 (.lit 0)], [(0, 41), (11, 3), (12, 42)], none, none, false, false, none, 160, false⟩)]
set_option maxRecDepth 100000 in
theorem tysck_SdO : (tys_SdO.all fun p => ckTI Try.prog p.1 p.2) = true := by kernel_rfl
theorem tyseq_SdO : (tys_SdO.all fun p => !p.2.eqok || ((Nat.beq p.1 29 && kindsC p.2.zero z_Sc) || (Nat.beq p.1 31 && kindsC p.2.zero z_Ty) || (Nat.beq p.1 35 && kindsC p.2.zero z_Sta))) = true := by kernel_rfl
theorem tysok_SdO : ∀ t i, (t, i) ∈ tys_SdO → TIok Try.prog t i := by
  intro t i h
  have h1 := List.all_eq_true.1 tyseq_SdO (t, i) h
  have h2 : i.eqok = true → (t = 29 ∧ kindsC i.zero z_Sc = true) ∨ (t = 31 ∧ kindsC i.zero z_Ty = true) ∨ (t = 35 ∧ kindsC i.zero z_Sta = true) := by
    intro he
    simp only [he, Bool.not_true, Bool.false_or, Bool.or_eq_true, Bool.and_eq_true] at h1
    rcases h1 with (h1 | h1) | h1
    · exact .inl ⟨Nat.eq_of_beq_eq_true h1.1, h1.2⟩
    · exact .inr (.inl ⟨Nat.eq_of_beq_eq_true h1.1, h1.2⟩)
    · exact .inr (.inr (⟨Nat.eq_of_beq_eq_true h1.1, h1.2⟩))
  refine TIok_of (all_at (f := ckTI Try.prog) tysck_SdO h) (fun he => ?_) (fun he => ?_)
  · rcases h2 he with ⟨rfl, hs⟩ | ⟨rfl, hs⟩ | ⟨rfl, hs⟩
    · exact fun vs us hv hu => eq_Sc vs us (kindsV_of hs hv) (kindsV_of hs hu)
    · exact fun vs us hv hu => eq_Ty vs us (kindsV_of hs hv) (kindsV_of hs hu)
    · exact fun vs us hv hu => eq_Sta vs us (kindsV_of hs hv) (kindsV_of hs hu)
  · rcases h2 he with ⟨rfl, hs⟩ | ⟨rfl, hs⟩ | ⟨rfl, hs⟩
    · exact grd_Sc
    · exact grd_Ty
    · exact grd_Sta
def sV_saall (a : Sta) (x : Snap) (n : Int) : List Dt := [.z (b2i true)]
def sF_saall : List Dt → List Dt := rd_Sta fun a => rd_Snap fun x => rdZ fun n => fun _ => sV_saall a x n
set_option maxRecDepth 100000 in
def sT_saall : Tr :=
(.call 0 ([.bool]) (.vs 0 171 .nil) 248
(.br (.bvar 248)
(.loop 0 249 [.int .i64, .int .i8, .int .u64, .int .u64, .int .i64, .int .i64, .int .u64, .int .u64, .int .i64, .int .i64, .int .i8, .int .u64, .int .u64, .int .i64, .int .i64, .int .u64, .int .u64, .int .i64, .int .i64, .int .i8, .int .u64, .int .u64, .int .i64, .int .i64, .int .u64, .int .u64, .int .i64, .int .i64, .int .i8, .int .u64, .int .u64, .int .i64, .int .i64, .int .u64, .int .u64, .int .i64, .int .i64, .int .i8, .int .u64, .int .u64, .int .i64, .int .i64, .int .u64, .int .u64, .int .i64, .int .i64, .int .i8, .int .u64, .int .u64, .int .i64, .int .i64, .int .u64, .int .u64, .int .i64, .int .i64, .int .i8, .int .u64, .int .u64, .int .i64, .int .i64, .int .u64, .int .u64, .int .i64, .int .i64, .int .i8, .int .u64, .int .u64, .int .i64, .int .i64, .int .u64, .int .u64, .int .i64, .int .i64, .int .i8, .int .u64, .int .u64, .int .i64, .int .i64, .int .u64, .int .u64, .int .i64, .int .i64, .int .i8, .int .u64, .int .u64, .int .i64, .int .i64, .int .u64, .int .u64, .int .i64, .int .i64, .int .i8, .int .u64, .int .u64, .int .i64, .int .i64, .int .u64, .int .u64, .int .i64, .int .i64] (.cons (.lit 0) (.vs 0 99 .nil))
(.br (.lt (.var 249) (.lit 11))
(.br (.eq (.var 249) (.lit 0))
(.br (.eq (.var 0) (.lit 0))
(.next 0 (.cons (.bin .add .i64 (.var 249) (.lit 1)) (.vs 250 99 .nil)))
(.call 2 (kTy) .nil 349
(.next 0 (.cons (.bin .add .i64 (.var 249) (.lit 1)) (.vs 349 9 (.vs 259 90 .nil))))))
(.br (.eq (.var 249) (.lit 1))
(.br (.eq (.var 9) (.lit 0))
(.next 0 (.cons (.bin .add .i64 (.var 249) (.lit 1)) (.vs 250 99 .nil)))
(.call 2 (kTy) .nil 349
(.next 0 (.cons (.bin .add .i64 (.var 249) (.lit 1)) (.vs 250 9 (.vs 349 9 (.vs 268 81 .nil)))))))
(.br (.eq (.var 249) (.lit 2))
(.br (.eq (.var 18) (.lit 0))
(.next 0 (.cons (.bin .add .i64 (.var 249) (.lit 1)) (.vs 250 99 .nil)))
(.call 2 (kTy) .nil 349
(.next 0 (.cons (.bin .add .i64 (.var 249) (.lit 1)) (.vs 250 18 (.vs 349 9 (.vs 277 72 .nil)))))))
(.br (.eq (.var 249) (.lit 3))
(.br (.eq (.var 27) (.lit 0))
(.next 0 (.cons (.bin .add .i64 (.var 249) (.lit 1)) (.vs 250 99 .nil)))
(.call 2 (kTy) .nil 349
(.next 0 (.cons (.bin .add .i64 (.var 249) (.lit 1)) (.vs 250 27 (.vs 349 9 (.vs 286 63 .nil)))))))
(.br (.eq (.var 249) (.lit 4))
(.br (.eq (.var 36) (.lit 0))
(.next 0 (.cons (.bin .add .i64 (.var 249) (.lit 1)) (.vs 250 99 .nil)))
(.call 2 (kTy) .nil 349
(.next 0 (.cons (.bin .add .i64 (.var 249) (.lit 1)) (.vs 250 36 (.vs 349 9 (.vs 295 54 .nil)))))))
(.br (.eq (.var 249) (.lit 5))
(.br (.eq (.var 45) (.lit 0))
(.next 0 (.cons (.bin .add .i64 (.var 249) (.lit 1)) (.vs 250 99 .nil)))
(.call 2 (kTy) .nil 349
(.next 0 (.cons (.bin .add .i64 (.var 249) (.lit 1)) (.vs 250 45 (.vs 349 9 (.vs 304 45 .nil)))))))
(.br (.eq (.var 249) (.lit 6))
(.br (.eq (.var 54) (.lit 0))
(.next 0 (.cons (.bin .add .i64 (.var 249) (.lit 1)) (.vs 250 99 .nil)))
(.call 2 (kTy) .nil 349
(.next 0 (.cons (.bin .add .i64 (.var 249) (.lit 1)) (.vs 250 54 (.vs 349 9 (.vs 313 36 .nil)))))))
(.br (.eq (.var 249) (.lit 7))
(.br (.eq (.var 63) (.lit 0))
(.next 0 (.cons (.bin .add .i64 (.var 249) (.lit 1)) (.vs 250 99 .nil)))
(.call 2 (kTy) .nil 349
(.next 0 (.cons (.bin .add .i64 (.var 249) (.lit 1)) (.vs 250 63 (.vs 349 9 (.vs 322 27 .nil)))))))
(.br (.eq (.var 249) (.lit 8))
(.br (.eq (.var 72) (.lit 0))
(.next 0 (.cons (.bin .add .i64 (.var 249) (.lit 1)) (.vs 250 99 .nil)))
(.call 2 (kTy) .nil 349
(.next 0 (.cons (.bin .add .i64 (.var 249) (.lit 1)) (.vs 250 72 (.vs 349 9 (.vs 331 18 .nil)))))))
(.br (.eq (.var 249) (.lit 9))
(.br (.eq (.var 81) (.lit 0))
(.next 0 (.cons (.bin .add .i64 (.var 249) (.lit 1)) (.vs 250 99 .nil)))
(.call 2 (kTy) .nil 349
(.next 0 (.cons (.bin .add .i64 (.var 249) (.lit 1)) (.vs 250 81 (.vs 349 9 (.vs 340 9 .nil)))))))
(.br (.eq (.var 249) (.lit 10))
(.br (.eq (.var 90) (.lit 0))
(.next 0 (.cons (.bin .add .i64 (.var 249) (.lit 1)) (.vs 250 99 .nil)))
(.call 2 (kTy) .nil 349
(.next 0 (.cons (.bin .add .i64 (.var 249) (.lit 1)) (.vs 250 90 (.vs 349 9 .nil))))))
.panic)))))))))))
(.call 2 (kTy) .nil 349
(.loop 1 358 [.int .i64, .bool] (.cons (.lit 0) (.consb (.tt true) .nil))
(.br (.lt (.var 358) (.lit 11))
(.br (.bvar 359)
(.br (.eq (.var 358) (.lit 0))
(.br (.eq (.var 0) (.lit 0))
(.next 1 (.cons (.bin .add .i64 (.var 358) (.lit 1)) (.consb (.tt true) .nil)))
(.br (.lt (.var 358) (.lit 0))
.panic
(.next 1 (.cons (.bin .add .i64 (.var 358) (.lit 1)) (.consb (.eq (.bin .and .i64 (.bin .shr .i64 (.var 182) (.var 358)) (.lit 1)) (.lit 1)) .nil)))))
(.br (.eq (.var 358) (.lit 1))
(.br (.eq (.var 9) (.lit 0))
(.next 1 (.cons (.bin .add .i64 (.var 358) (.lit 1)) (.consb (.tt true) .nil)))
(.br (.lt (.var 358) (.lit 0))
.panic
(.next 1 (.cons (.bin .add .i64 (.var 358) (.lit 1)) (.consb (.eq (.bin .and .i64 (.bin .shr .i64 (.var 182) (.var 358)) (.lit 1)) (.lit 1)) .nil)))))
(.br (.eq (.var 358) (.lit 2))
(.br (.eq (.var 18) (.lit 0))
(.next 1 (.cons (.bin .add .i64 (.var 358) (.lit 1)) (.consb (.tt true) .nil)))
(.br (.lt (.var 358) (.lit 0))
.panic
(.next 1 (.cons (.bin .add .i64 (.var 358) (.lit 1)) (.consb (.eq (.bin .and .i64 (.bin .shr .i64 (.var 182) (.var 358)) (.lit 1)) (.lit 1)) .nil)))))
(.br (.eq (.var 358) (.lit 3))
(.br (.eq (.var 27) (.lit 0))
(.next 1 (.cons (.bin .add .i64 (.var 358) (.lit 1)) (.consb (.tt true) .nil)))
(.br (.lt (.var 358) (.lit 0))
.panic
(.next 1 (.cons (.bin .add .i64 (.var 358) (.lit 1)) (.consb (.eq (.bin .and .i64 (.bin .shr .i64 (.var 182) (.var 358)) (.lit 1)) (.lit 1)) .nil)))))
(.br (.eq (.var 358) (.lit 4))
(.br (.eq (.var 36) (.lit 0))
(.next 1 (.cons (.bin .add .i64 (.var 358) (.lit 1)) (.consb (.tt true) .nil)))
(.br (.lt (.var 358) (.lit 0))
.panic
(.next 1 (.cons (.bin .add .i64 (.var 358) (.lit 1)) (.consb (.eq (.bin .and .i64 (.bin .shr .i64 (.var 182) (.var 358)) (.lit 1)) (.lit 1)) .nil)))))
(.br (.eq (.var 358) (.lit 5))
(.br (.eq (.var 45) (.lit 0))
(.next 1 (.cons (.bin .add .i64 (.var 358) (.lit 1)) (.consb (.tt true) .nil)))
(.br (.lt (.var 358) (.lit 0))
.panic
(.next 1 (.cons (.bin .add .i64 (.var 358) (.lit 1)) (.consb (.eq (.bin .and .i64 (.bin .shr .i64 (.var 182) (.var 358)) (.lit 1)) (.lit 1)) .nil)))))
(.br (.eq (.var 358) (.lit 6))
(.br (.eq (.var 54) (.lit 0))
(.next 1 (.cons (.bin .add .i64 (.var 358) (.lit 1)) (.consb (.tt true) .nil)))
(.br (.lt (.var 358) (.lit 0))
.panic
(.next 1 (.cons (.bin .add .i64 (.var 358) (.lit 1)) (.consb (.eq (.bin .and .i64 (.bin .shr .i64 (.var 182) (.var 358)) (.lit 1)) (.lit 1)) .nil)))))
(.br (.eq (.var 358) (.lit 7))
(.br (.eq (.var 63) (.lit 0))
(.next 1 (.cons (.bin .add .i64 (.var 358) (.lit 1)) (.consb (.tt true) .nil)))
(.br (.lt (.var 358) (.lit 0))
.panic
(.next 1 (.cons (.bin .add .i64 (.var 358) (.lit 1)) (.consb (.eq (.bin .and .i64 (.bin .shr .i64 (.var 182) (.var 358)) (.lit 1)) (.lit 1)) .nil)))))
(.br (.eq (.var 358) (.lit 8))
(.br (.eq (.var 72) (.lit 0))
(.next 1 (.cons (.bin .add .i64 (.var 358) (.lit 1)) (.consb (.tt true) .nil)))
(.br (.lt (.var 358) (.lit 0))
.panic
(.next 1 (.cons (.bin .add .i64 (.var 358) (.lit 1)) (.consb (.eq (.bin .and .i64 (.bin .shr .i64 (.var 182) (.var 358)) (.lit 1)) (.lit 1)) .nil)))))
(.br (.eq (.var 358) (.lit 9))
(.br (.eq (.var 81) (.lit 0))
(.next 1 (.cons (.bin .add .i64 (.var 358) (.lit 1)) (.consb (.tt true) .nil)))
(.br (.lt (.var 358) (.lit 0))
.panic
(.next 1 (.cons (.bin .add .i64 (.var 358) (.lit 1)) (.consb (.eq (.bin .and .i64 (.bin .shr .i64 (.var 182) (.var 358)) (.lit 1)) (.lit 1)) .nil)))))
(.br (.eq (.var 358) (.lit 10))
(.br (.eq (.var 90) (.lit 0))
(.next 1 (.cons (.bin .add .i64 (.var 358) (.lit 1)) (.consb (.tt true) .nil)))
(.br (.lt (.var 358) (.lit 0))
.panic
(.next 1 (.cons (.bin .add .i64 (.var 358) (.lit 1)) (.consb (.eq (.bin .and .i64 (.bin .shr .i64 (.var 182) (.var 358)) (.lit 1)) (.lit 1)) .nil)))))
.panic)))))))))))
(.next 1 (.cons (.bin .add .i64 (.var 358) (.lit 1)) (.consb (.tt false) .nil))))
(.cut 2 360 [.int .i8, .int .u64, .int .u64, .int .i64, .int .i64, .int .u64, .int .u64, .int .i64, .int .i64, .int .i8, .int .u64, .int .u64, .int .i64, .int .i64, .int .u64, .int .u64, .int .i64, .int .i64, .int .i8, .int .u64, .int .u64, .int .i64, .int .i64, .int .u64, .int .u64, .int .i64, .int .i64, .int .i8, .int .u64, .int .u64, .int .i64, .int .i64, .int .u64, .int .u64, .int .i64, .int .i64, .int .i8, .int .u64, .int .u64, .int .i64, .int .i64, .int .u64, .int .u64, .int .i64, .int .i64, .int .i8, .int .u64, .int .u64, .int .i64, .int .i64, .int .u64, .int .u64, .int .i64, .int .i64, .int .i8, .int .u64, .int .u64, .int .i64, .int .i64, .int .u64, .int .u64, .int .i64, .int .i64, .int .i8, .int .u64, .int .u64, .int .i64, .int .i64, .int .u64, .int .u64, .int .i64, .int .i64, .int .i8, .int .u64, .int .u64, .int .i64, .int .i64, .int .u64, .int .u64, .int .i64, .int .i64, .int .i8, .int .u64, .int .u64, .int .i64, .int .i64, .int .u64, .int .u64, .int .i64, .int .i64, .int .i8, .int .u64, .int .u64, .int .i64, .int .i64, .int .u64, .int .u64, .int .i64, .int .i64]
(.br (.eq (.bin .rem .i64 (.bin .add .i64 (.bin .rem .i64 (.var 247) (.lit 11)) (.lit 11)) (.lit 11)) (.lit 0))
(.next 2 (.cons (.lit 0) (.cons (.lit 0) (.cons (.lit 0) (.cons (.lit 0) (.cons (.lit 0) (.cons (.lit 0) (.cons (.lit 0) (.cons (.lit 0) (.cons (.lit 0) (.vs 9 90 .nil)))))))))))
(.br (.eq (.bin .rem .i64 (.bin .add .i64 (.bin .rem .i64 (.var 247) (.lit 11)) (.lit 11)) (.lit 11)) (.lit 1))
(.next 2 (.vs 0 9 (.cons (.lit 0) (.cons (.lit 0) (.cons (.lit 0) (.cons (.lit 0) (.cons (.lit 0) (.cons (.lit 0) (.cons (.lit 0) (.cons (.lit 0) (.cons (.lit 0) (.vs 18 81 .nil))))))))))))
(.br (.eq (.bin .rem .i64 (.bin .add .i64 (.bin .rem .i64 (.var 247) (.lit 11)) (.lit 11)) (.lit 11)) (.lit 2))
(.next 2 (.vs 0 18 (.cons (.lit 0) (.cons (.lit 0) (.cons (.lit 0) (.cons (.lit 0) (.cons (.lit 0) (.cons (.lit 0) (.cons (.lit 0) (.cons (.lit 0) (.cons (.lit 0) (.vs 27 72 .nil))))))))))))
(.br (.eq (.bin .rem .i64 (.bin .add .i64 (.bin .rem .i64 (.var 247) (.lit 11)) (.lit 11)) (.lit 11)) (.lit 3))
(.next 2 (.vs 0 27 (.cons (.lit 0) (.cons (.lit 0) (.cons (.lit 0) (.cons (.lit 0) (.cons (.lit 0) (.cons (.lit 0) (.cons (.lit 0) (.cons (.lit 0) (.cons (.lit 0) (.vs 36 63 .nil))))))))))))
(.br (.eq (.bin .rem .i64 (.bin .add .i64 (.bin .rem .i64 (.var 247) (.lit 11)) (.lit 11)) (.lit 11)) (.lit 4))
(.next 2 (.vs 0 36 (.cons (.lit 0) (.cons (.lit 0) (.cons (.lit 0) (.cons (.lit 0) (.cons (.lit 0) (.cons (.lit 0) (.cons (.lit 0) (.cons (.lit 0) (.cons (.lit 0) (.vs 45 54 .nil))))))))))))
(.br (.eq (.bin .rem .i64 (.bin .add .i64 (.bin .rem .i64 (.var 247) (.lit 11)) (.lit 11)) (.lit 11)) (.lit 5))
(.next 2 (.vs 0 45 (.cons (.lit 0) (.cons (.lit 0) (.cons (.lit 0) (.cons (.lit 0) (.cons (.lit 0) (.cons (.lit 0) (.cons (.lit 0) (.cons (.lit 0) (.cons (.lit 0) (.vs 54 45 .nil))))))))))))
(.br (.eq (.bin .rem .i64 (.bin .add .i64 (.bin .rem .i64 (.var 247) (.lit 11)) (.lit 11)) (.lit 11)) (.lit 6))
(.next 2 (.vs 0 54 (.cons (.lit 0) (.cons (.lit 0) (.cons (.lit 0) (.cons (.lit 0) (.cons (.lit 0) (.cons (.lit 0) (.cons (.lit 0) (.cons (.lit 0) (.cons (.lit 0) (.vs 63 36 .nil))))))))))))
(.br (.eq (.bin .rem .i64 (.bin .add .i64 (.bin .rem .i64 (.var 247) (.lit 11)) (.lit 11)) (.lit 11)) (.lit 7))
(.next 2 (.vs 0 63 (.cons (.lit 0) (.cons (.lit 0) (.cons (.lit 0) (.cons (.lit 0) (.cons (.lit 0) (.cons (.lit 0) (.cons (.lit 0) (.cons (.lit 0) (.cons (.lit 0) (.vs 72 27 .nil))))))))))))
(.br (.eq (.bin .rem .i64 (.bin .add .i64 (.bin .rem .i64 (.var 247) (.lit 11)) (.lit 11)) (.lit 11)) (.lit 8))
(.next 2 (.vs 0 72 (.cons (.lit 0) (.cons (.lit 0) (.cons (.lit 0) (.cons (.lit 0) (.cons (.lit 0) (.cons (.lit 0) (.cons (.lit 0) (.cons (.lit 0) (.cons (.lit 0) (.vs 81 18 .nil))))))))))))
(.br (.eq (.bin .rem .i64 (.bin .add .i64 (.bin .rem .i64 (.var 247) (.lit 11)) (.lit 11)) (.lit 11)) (.lit 9))
(.next 2 (.vs 0 81 (.cons (.lit 0) (.cons (.lit 0) (.cons (.lit 0) (.cons (.lit 0) (.cons (.lit 0) (.cons (.lit 0) (.cons (.lit 0) (.cons (.lit 0) (.cons (.lit 0) (.vs 90 9 .nil))))))))))))
(.br (.eq (.bin .rem .i64 (.bin .add .i64 (.bin .rem .i64 (.var 247) (.lit 11)) (.lit 11)) (.lit 11)) (.lit 10))
(.next 2 (.vs 0 90 (.cons (.lit 0) (.cons (.lit 0) (.cons (.lit 0) (.cons (.lit 0) (.cons (.lit 0) (.cons (.lit 0) (.cons (.lit 0) (.cons (.lit 0) (.cons (.lit 0) .nil)))))))))))
.panic)))))))))))
(.call 3 ([.bool]) (.vs 250 108 (.vs 349 9 (.vs 349 9 (.vs 349 9 (.vs 349 9 (.vs 349 9 (.vs 349 9 (.vs 349 9 .nil)))))))) 459
(.br (.bvar 459)
(.call 4 ([.bool]) (.vs 0 171 (.vs 250 108 (.vs 349 9 (.vs 349 9 (.vs 349 9 (.vs 349 9 (.vs 349 9 (.vs 349 9 (.vs 349 9 .nil))))))))) 460
(.br (.bvar 460)
(.call 5 ([.bool]) (.vs 250 108 (.vs 349 9 (.vs 349 9 (.vs 349 9 (.vs 349 9 (.vs 349 9 (.vs 349 9 (.vs 349 9 (.vs 171 76 .nil))))))))) 461
(.br (.beq (.bvar 461) (.bvar 359))
(.call 4 ([.bool]) (.vs 0 171 (.vs 360 99 (.vs 99 72 .nil))) 462
(.br (.bvar 462)
(.call 5 ([.bool]) (.vs 0 247 .nil) 463
(.br (.bvar 463)
(.call 5 ([.bool]) (.vs 360 99 (.vs 99 148 .nil)) 464
(.br (.bvar 464)
(.call 1 ([.bool]) .nil 465
(.leaf (.consb (.bvar 465) .nil)))
(.leaf (.consb (.tt false) .nil))))
(.call 1 ([.bool]) .nil 464
(.leaf (.consb (.bvar 464) .nil)))))
(.leaf (.consb (.tt false) .nil))))
(.leaf (.consb (.tt false) .nil))))
(.leaf (.consb (.tt false) .nil))))
(.leaf (.consb (.tt false) .nil))))))))))
(.call 1 ([.bool]) .nil 249
(.leaf (.consb (.bvar 249) .nil)))))
def sP_saall : Spec := ⟨fun k => match k with | 0 => sF_ymay | 1 => sF_twakes | 2 => sF_tscal | 3 => sF_tmay | 4 => sF_tin | 5 => sF_thas | _ => fun _ => [], fun k => match k with | _ => fun _ => True⟩
set_option maxRecDepth 100000 in
theorem sR_saall : treeIs tys_SdO [sM_ymay 0, sM_twakes 1, sM_tscal 2, sM_tmay 3, sM_tin 4, sM_thas 5] [] [(5, [.tmpI 8 .i64, .celI 2 0 .i8, .celI 2 1 .u64, .celI 2 2 .u64, .celI 2 3 .i64, .celI 2 4 .i64, .celI 2 5 .u64, .celI 2 6 .u64, .celI 2 7 .i64, .celI 2 8 .i64, .celI 2 9 .i8, .celI 2 10 .u64, .celI 2 11 .u64, .celI 2 12 .i64, .celI 2 13 .i64, .celI 2 14 .u64, .celI 2 15 .u64, .celI 2 16 .i64, .celI 2 17 .i64, .celI 2 18 .i8, .celI 2 19 .u64, .celI 2 20 .u64, .celI 2 21 .i64, .celI 2 22 .i64, .celI 2 23 .u64, .celI 2 24 .u64, .celI 2 25 .i64, .celI 2 26 .i64, .celI 2 27 .i8, .celI 2 28 .u64, .celI 2 29 .u64, .celI 2 30 .i64, .celI 2 31 .i64, .celI 2 32 .u64, .celI 2 33 .u64, .celI 2 34 .i64, .celI 2 35 .i64, .celI 2 36 .i8, .celI 2 37 .u64, .celI 2 38 .u64, .celI 2 39 .i64, .celI 2 40 .i64, .celI 2 41 .u64, .celI 2 42 .u64, .celI 2 43 .i64, .celI 2 44 .i64, .celI 2 45 .i8, .celI 2 46 .u64, .celI 2 47 .u64, .celI 2 48 .i64, .celI 2 49 .i64, .celI 2 50 .u64, .celI 2 51 .u64, .celI 2 52 .i64, .celI 2 53 .i64, .celI 2 54 .i8, .celI 2 55 .u64, .celI 2 56 .u64, .celI 2 57 .i64, .celI 2 58 .i64, .celI 2 59 .u64, .celI 2 60 .u64, .celI 2 61 .i64, .celI 2 62 .i64, .celI 2 63 .i8, .celI 2 64 .u64, .celI 2 65 .u64, .celI 2 66 .i64, .celI 2 67 .i64, .celI 2 68 .u64, .celI 2 69 .u64, .celI 2 70 .i64, .celI 2 71 .i64, .celI 2 72 .i8, .celI 2 73 .u64, .celI 2 74 .u64, .celI 2 75 .i64, .celI 2 76 .i64, .celI 2 77 .u64, .celI 2 78 .u64, .celI 2 79 .i64, .celI 2 80 .i64, .celI 2 81 .i8, .celI 2 82 .u64, .celI 2 83 .u64, .celI 2 84 .i64, .celI 2 85 .i64, .celI 2 86 .u64, .celI 2 87 .u64, .celI 2 88 .i64, .celI 2 89 .i64, .celI 2 90 .i8, .celI 2 91 .u64, .celI 2 92 .u64, .celI 2 93 .i64, .celI 2 94 .i64, .celI 2 95 .u64, .celI 2 96 .u64, .celI 2 97 .i64, .celI 2 98 .i64, .top 0, .top 1, .top 5, .top 6, .top 9, .top 10, .top 11, .top 12, .top 13, .top 14, .top 15, .top 16, .top 17, .top 18, .top 19, .top 20, .top 21, .top 22, .top 23, .top 24, .top 25, .top 26, .top 27, .top 28, .top 29, .top 30, .top 31, .top 32, .top 33, .top 34, .top 35, .top 36, .top 37, .top 38, .top 39, .top 40, .top 41, .top 42, .top 43, .top 44, .top 45, .top 46, .top 47, .top 48, .top 49, .top 50, .top 51, .top 52, .top 53, .top 54, .top 55, .top 56, .top 57, .top 58, .top 59, .top 60, .top 61, .top 62, .top 63, .top 64, .top 65, .top 66, .top 67, .top 68, .top 69, .top 70, .top 71, .top 72, .top 73, .top 74, .top 75, .top 76, .top 77, .top 78, .top 79, .top 80, .top 81, .top 82, .top 83, .top 84, .top 85, .top 86, .top 87, .top 88, .top 89, .top 90, .top 91, .top 92, .top 93, .top 94, .top 95, .top 96, .top 97, .top 98, .top 99, .top 100, .top 101]), (15, [.tmpI 11 .i64, .tmpB 10, .top 0, .top 1, .top 5, .top 6, .top 8, .top 9, .top 12, .top 13, .top 14, .top 15, .top 16, .top 17, .top 18, .top 19, .top 20, .top 21, .top 22, .top 23, .top 24, .top 25, .top 26, .top 27, .top 28, .top 29, .top 30, .top 31, .top 32, .top 33, .top 34, .top 35, .top 36, .top 37, .top 38, .top 39, .top 40, .top 41, .top 42, .top 43, .top 44, .top 45, .top 46, .top 47, .top 48, .top 49, .top 50, .top 51, .top 52, .top 53, .top 54, .top 55, .top 56, .top 57, .top 58, .top 59, .top 60, .top 61, .top 62, .top 63, .top 64, .top 65, .top 66, .top 67, .top 68, .top 69, .top 70, .top 71, .top 72, .top 73, .top 74, .top 75, .top 76, .top 77, .top 78, .top 79, .top 80, .top 81, .top 82, .top 83, .top 84, .top 85, .top 86, .top 87, .top 88, .top 89, .top 90, .top 91, .top 92, .top 93, .top 94, .top 95, .top 96, .top 97, .top 98, .top 99, .top 100, .top 101])] [(20, [.celI 3 0 .i8, .celI 3 1 .u64, .celI 3 2 .u64, .celI 3 3 .i64, .celI 3 4 .i64, .celI 3 5 .u64, .celI 3 6 .u64, .celI 3 7 .i64, .celI 3 8 .i64, .celI 3 9 .i8, .celI 3 10 .u64, .celI 3 11 .u64, .celI 3 12 .i64, .celI 3 13 .i64, .celI 3 14 .u64, .celI 3 15 .u64, .celI 3 16 .i64, .celI 3 17 .i64, .celI 3 18 .i8, .celI 3 19 .u64, .celI 3 20 .u64, .celI 3 21 .i64, .celI 3 22 .i64, .celI 3 23 .u64, .celI 3 24 .u64, .celI 3 25 .i64, .celI 3 26 .i64, .celI 3 27 .i8, .celI 3 28 .u64, .celI 3 29 .u64, .celI 3 30 .i64, .celI 3 31 .i64, .celI 3 32 .u64, .celI 3 33 .u64, .celI 3 34 .i64, .celI 3 35 .i64, .celI 3 36 .i8, .celI 3 37 .u64, .celI 3 38 .u64, .celI 3 39 .i64, .celI 3 40 .i64, .celI 3 41 .u64, .celI 3 42 .u64, .celI 3 43 .i64, .celI 3 44 .i64, .celI 3 45 .i8, .celI 3 46 .u64, .celI 3 47 .u64, .celI 3 48 .i64, .celI 3 49 .i64, .celI 3 50 .u64, .celI 3 51 .u64, .celI 3 52 .i64, .celI 3 53 .i64, .celI 3 54 .i8, .celI 3 55 .u64, .celI 3 56 .u64, .celI 3 57 .i64, .celI 3 58 .i64, .celI 3 59 .u64, .celI 3 60 .u64, .celI 3 61 .i64, .celI 3 62 .i64, .celI 3 63 .i8, .celI 3 64 .u64, .celI 3 65 .u64, .celI 3 66 .i64, .celI 3 67 .i64, .celI 3 68 .u64, .celI 3 69 .u64, .celI 3 70 .i64, .celI 3 71 .i64, .celI 3 72 .i8, .celI 3 73 .u64, .celI 3 74 .u64, .celI 3 75 .i64, .celI 3 76 .i64, .celI 3 77 .u64, .celI 3 78 .u64, .celI 3 79 .i64, .celI 3 80 .i64, .celI 3 81 .i8, .celI 3 82 .u64, .celI 3 83 .u64, .celI 3 84 .i64, .celI 3 85 .i64, .celI 3 86 .u64, .celI 3 87 .u64, .celI 3 88 .i64, .celI 3 89 .i64, .celI 3 90 .i8, .celI 3 91 .u64, .celI 3 92 .u64, .celI 3 93 .i64, .celI 3 94 .i64, .celI 3 95 .u64, .celI 3 96 .u64, .celI 3 97 .i64, .celI 3 98 .i64, .top 0, .top 1, .top 5, .top 6, .top 8, .top 9, .top 11, .top 13, .top 14, .top 15, .top 16, .top 17, .top 18, .top 19, .top 20, .top 21, .top 22, .top 23, .top 24, .top 25, .top 26, .top 27, .top 28, .top 29, .top 30, .top 31, .top 32, .top 33, .top 34, .top 35, .top 36, .top 37, .top 38, .top 39, .top 40, .top 41, .top 42, .top 43, .top 44, .top 45, .top 46, .top 47, .top 48, .top 49, .top 50, .top 51, .top 52, .top 53, .top 54, .top 55, .top 56, .top 57, .top 58, .top 59, .top 60, .top 61, .top 62, .top 63, .top 64, .top 65, .top 66, .top 67, .top 68, .top 69, .top 70, .top 71, .top 72, .top 73, .top 74, .top 75, .top 76, .top 77, .top 78, .top 79, .top 80, .top 81, .top 82, .top 83, .top 84, .top 85, .top 86, .top 87, .top 88, .top 89, .top 90, .top 91, .top 92, .top 93, .top 94, .top 95, .top 96, .top 97, .top 98, .top 99, .top 100, .top 101])] 200 Try.f4 [.agg kSta, .agg kSnap, .one (.int .i64)] [.one .bool] false (v_Sta ( v_Snap ( .int .i64 :: ([])))) sT_saall := ⟨by kernel_rfl, by kernel_rfl, by kernel_rfl⟩
set_option maxRecDepth 100000 in
set_option maxHeartbeats 8000000 in
theorem sX_saall (a : Sta) (ha : Sta.ok a) (x : Snap) (hx : Snap.ok x) (n : Int) (hn : inK .i64 n = true) (ρ : Env) (g : varsD ρ 0 (v_Sta ( v_Snap ( .int .i64 :: ([])))) = (d_Sta a ( d_Snap x ( .z n :: ([]))))) : sT_saall.asks sP_saall (fun ρ e => e.D ρ = sF_saall (d_Sta a ( d_Snap x ( .z n :: ([]))))) ρ fun _ _ => False := by
  have keepg := g
  simp only [sF_saall, rd_Sta_d, rd_Ty_d, rd_Snap_d, rdZ, rdB]
  simp only [d_Sta, d_Ty, d_Snap, v_Sta, v_Ty, v_Snap, varsD, varD, List.cons.injEq, Dt.z.injEq, Dt.l.injEq, b2i_eq_iff, Nat.reduceAdd, and_true] at g
  simp (maxSteps := 10000000) only [sT_saall, sP_saall, d_Sta, d_Ty, d_Snap, kTy, rd_Sta, rd_Ty, rd_Snap, rd8, rdZ, sF_ymay, sF_twakes, sF_tscal, sF_tmay, sF_tin, sF_thas, sV_ymay, sV_tmay, sV_tin, sV_thas, sF_saall, sV_saall, Tr.asks, upd_same, okDs, okD, eqs, E.I, E.B, E.L, E.R, E.D, E.vs, dI, dB, dL, varD, varsD, List.getElem?_cons_zero, List.getElem?_cons_succ, List.cons_append, List.nil_append, Nat.zero_add, Nat.add_zero, Nat.reduceAdd, and_true, true_and, b2i_one, -eq_self, etasX, g]
  intro e; (try simp only [e, etasX, -eq_self]); clear e
  refine ⟨fun c0 => ?_, fun c0 => ?_⟩
  refine ⟨fun ds => ∃ n : Int, ds = .z n :: regsD (rsome a n) ∧ 0 ≤ n ∧ n ≤ 11, fun ds => (100 - dI ds 0).toNat, ⟨0, by rw [rsome_0]; rfl, by omega, by omega⟩, ?_⟩
  intro ρ1 ha1 _ hi1
  obtain ⟨n0, hds, r1, r2⟩ := hi1
  have keeph : varsD ρ1 249 (.int .i64 :: v_Ty (v_Ty (v_Ty (v_Ty (v_Ty (v_Ty (v_Ty (v_Ty (v_Ty (v_Ty (v_Ty ([])))))))))))) = .z n0 :: regsD (rsome a n0) := hds
  simp only [regsD, List.cons.injEq, Dt.z.injEq, Nat.reduceAdd, and_true] at hds
  have keepg1 := (varsD_ag ha1 _ 0 (by decide)).trans keepg
  have g1 := keepg1
  simp only [d_Ty, v_Ty, d_Sta, v_Sta, d_Snap, v_Snap, d_Fr, v_Fr, varsD, varD, List.cons.injEq, Dt.z.injEq, Dt.l.injEq, b2i_eq_iff, Nat.reduceAdd, and_true] at g1
  simp only [g1, hds, -eq_self]
  refine ⟨fun c1 => ?_, fun c1 => ?_⟩
  refine ⟨fun c2 => ?_, fun c2 => ?_⟩
  refine ⟨fun c3 => ?_, fun c3 => ?_⟩
  · have e := eqz c2
    subst e
    refine ⟨⟨1, ?_, by omega, by omega⟩, ?_⟩
    · rw [rsome_z0 c3]; rfl
    · show (100 - (1 : Int)).toNat < (100 - (0 : Int)).toNat; decide
  intro e; (try simp only [e, etasX, -eq_self]); clear e
  · have e := eqz c2
    subst e
    refine ⟨⟨1, ?_, by omega, by omega⟩, ?_⟩
    · rw [rsome_n0 c3]; rfl
    · show (100 - (1 : Int)).toNat < (100 - (0 : Int)).toNat; decide
  refine ⟨fun c4 => ?_, fun c4 => ?_⟩
  refine ⟨fun c5 => ?_, fun c5 => ?_⟩
  · have e := eqz c4
    subst e
    refine ⟨⟨2, ?_, by omega, by omega⟩, ?_⟩
    · rw [rsome_z1 c5]; rfl
    · show (100 - (2 : Int)).toNat < (100 - (1 : Int)).toNat; decide
  intro e; (try simp only [e, etasX, -eq_self]); clear e
  · have e := eqz c4
    subst e
    refine ⟨⟨2, ?_, by omega, by omega⟩, ?_⟩
    · rw [rsome_n1 c5]; rfl
    · show (100 - (2 : Int)).toNat < (100 - (1 : Int)).toNat; decide
  refine ⟨fun c6 => ?_, fun c6 => ?_⟩
  refine ⟨fun c7 => ?_, fun c7 => ?_⟩
  · have e := eqz c6
    subst e
    refine ⟨⟨3, ?_, by omega, by omega⟩, ?_⟩
    · rw [rsome_z2 c7]; rfl
    · show (100 - (3 : Int)).toNat < (100 - (2 : Int)).toNat; decide
  intro e; (try simp only [e, etasX, -eq_self]); clear e
  · have e := eqz c6
    subst e
    refine ⟨⟨3, ?_, by omega, by omega⟩, ?_⟩
    · rw [rsome_n2 c7]; rfl
    · show (100 - (3 : Int)).toNat < (100 - (2 : Int)).toNat; decide
  refine ⟨fun c8 => ?_, fun c8 => ?_⟩
  refine ⟨fun c9 => ?_, fun c9 => ?_⟩
  · have e := eqz c8
    subst e
    refine ⟨⟨4, ?_, by omega, by omega⟩, ?_⟩
    · rw [rsome_z3 c9]; rfl
    · show (100 - (4 : Int)).toNat < (100 - (3 : Int)).toNat; decide
  intro e; (try simp only [e, etasX, -eq_self]); clear e
  · have e := eqz c8
    subst e
    refine ⟨⟨4, ?_, by omega, by omega⟩, ?_⟩
    · rw [rsome_n3 c9]; rfl
    · show (100 - (4 : Int)).toNat < (100 - (3 : Int)).toNat; decide
  refine ⟨fun c10 => ?_, fun c10 => ?_⟩
  refine ⟨fun c11 => ?_, fun c11 => ?_⟩
  · have e := eqz c10
    subst e
    refine ⟨⟨5, ?_, by omega, by omega⟩, ?_⟩
    · rw [rsome_z4 c11]; rfl
    · show (100 - (5 : Int)).toNat < (100 - (4 : Int)).toNat; decide
  intro e; (try simp only [e, etasX, -eq_self]); clear e
  · have e := eqz c10
    subst e
    refine ⟨⟨5, ?_, by omega, by omega⟩, ?_⟩
    · rw [rsome_n4 c11]; rfl
    · show (100 - (5 : Int)).toNat < (100 - (4 : Int)).toNat; decide
  refine ⟨fun c12 => ?_, fun c12 => ?_⟩
  refine ⟨fun c13 => ?_, fun c13 => ?_⟩
  · have e := eqz c12
    subst e
    refine ⟨⟨6, ?_, by omega, by omega⟩, ?_⟩
    · rw [rsome_z5 c13]; rfl
    · show (100 - (6 : Int)).toNat < (100 - (5 : Int)).toNat; decide
  intro e; (try simp only [e, etasX, -eq_self]); clear e
  · have e := eqz c12
    subst e
    refine ⟨⟨6, ?_, by omega, by omega⟩, ?_⟩
    · rw [rsome_n5 c13]; rfl
    · show (100 - (6 : Int)).toNat < (100 - (5 : Int)).toNat; decide
  refine ⟨fun c14 => ?_, fun c14 => ?_⟩
  refine ⟨fun c15 => ?_, fun c15 => ?_⟩
  · have e := eqz c14
    subst e
    refine ⟨⟨7, ?_, by omega, by omega⟩, ?_⟩
    · rw [rsome_z6 c15]; rfl
    · show (100 - (7 : Int)).toNat < (100 - (6 : Int)).toNat; decide
  intro e; (try simp only [e, etasX, -eq_self]); clear e
  · have e := eqz c14
    subst e
    refine ⟨⟨7, ?_, by omega, by omega⟩, ?_⟩
    · rw [rsome_n6 c15]; rfl
    · show (100 - (7 : Int)).toNat < (100 - (6 : Int)).toNat; decide
  refine ⟨fun c16 => ?_, fun c16 => ?_⟩
  refine ⟨fun c17 => ?_, fun c17 => ?_⟩
  · have e := eqz c16
    subst e
    refine ⟨⟨8, ?_, by omega, by omega⟩, ?_⟩
    · rw [rsome_z7 c17]; rfl
    · show (100 - (8 : Int)).toNat < (100 - (7 : Int)).toNat; decide
  intro e; (try simp only [e, etasX, -eq_self]); clear e
  · have e := eqz c16
    subst e
    refine ⟨⟨8, ?_, by omega, by omega⟩, ?_⟩
    · rw [rsome_n7 c17]; rfl
    · show (100 - (8 : Int)).toNat < (100 - (7 : Int)).toNat; decide
  refine ⟨fun c18 => ?_, fun c18 => ?_⟩
  refine ⟨fun c19 => ?_, fun c19 => ?_⟩
  · have e := eqz c18
    subst e
    refine ⟨⟨9, ?_, by omega, by omega⟩, ?_⟩
    · rw [rsome_z8 c19]; rfl
    · show (100 - (9 : Int)).toNat < (100 - (8 : Int)).toNat; decide
  intro e; (try simp only [e, etasX, -eq_self]); clear e
  · have e := eqz c18
    subst e
    refine ⟨⟨9, ?_, by omega, by omega⟩, ?_⟩
    · rw [rsome_n8 c19]; rfl
    · show (100 - (9 : Int)).toNat < (100 - (8 : Int)).toNat; decide
  refine ⟨fun c20 => ?_, fun c20 => ?_⟩
  refine ⟨fun c21 => ?_, fun c21 => ?_⟩
  · have e := eqz c20
    subst e
    refine ⟨⟨10, ?_, by omega, by omega⟩, ?_⟩
    · rw [rsome_z9 c21]; rfl
    · show (100 - (10 : Int)).toNat < (100 - (9 : Int)).toNat; decide
  intro e; (try simp only [e, etasX, -eq_self]); clear e
  · have e := eqz c20
    subst e
    refine ⟨⟨10, ?_, by omega, by omega⟩, ?_⟩
    · rw [rsome_n9 c21]; rfl
    · show (100 - (10 : Int)).toNat < (100 - (9 : Int)).toNat; decide
  refine ⟨fun c22 => ?_, fun c22 => ?_⟩
  refine ⟨fun c23 => ?_, fun c23 => ?_⟩
  · have e := eqz c22
    subst e
    refine ⟨⟨11, ?_, by omega, by omega⟩, ?_⟩
    · rw [rsome_z10 c23]; rfl
    · show (100 - (11 : Int)).toNat < (100 - (10 : Int)).toNat; decide
  intro e; (try simp only [e, etasX, -eq_self]); clear e
  · have e := eqz c22
    subst e
    refine ⟨⟨11, ?_, by omega, by omega⟩, ?_⟩
    · rw [rsome_n10 c23]; rfl
    · show (100 - (11 : Int)).toNat < (100 - (10 : Int)).toNat; decide
  · (simp only [beq_eq_false_iff_ne, beq_iff_eq, decide_eq_true_eq, decide_eq_false_iff_not] at *; omega)
  intro e; have keepe : varsD ρ1 349 (v_Ty []) = d_Ty tscal [] := (by simp only [v_Ty, d_Ty, varsD, varD, List.cons.injEq, Dt.z.injEq, Nat.reduceAdd, and_true]; exact e); (try simp only [e, etasX, -eq_self]); clear e
  obtain rfl : n0 = 11 := (by have := of_decide_eq_false c1; omega)
  refine ⟨fun ds => ∃ m : Int, ds = [.z m, .z (b2i (ssome a x.set m))] ∧ 0 ≤ m ∧ m ≤ 11, fun ds => (100 - dI ds 0).toNat, ⟨0, (by rw [ssome_0]; try rfl), by omega, by omega⟩, ?_⟩
  intro ρ2 ha2 _ hi2
  obtain ⟨m0, hds2, r3, r4⟩ := hi2
  simp only [List.cons.injEq, Dt.z.injEq, b2i_eq_iff, and_true] at hds2
  have keepg2 := (varsD_ag ha2 _ 0 (by decide)).trans keepg1
  have g2 := keepg2
  simp only [d_Ty, v_Ty, d_Sta, v_Sta, d_Snap, v_Snap, d_Fr, v_Fr, varsD, varD, List.cons.injEq, Dt.z.injEq, Dt.l.injEq, b2i_eq_iff, Nat.reduceAdd, and_true] at g2
  have h2 := (varsD_ag ha2 _ 249 (by decide)).trans keeph
  rw [rsome_11] at h2
  simp only [regsD] at h2
  have keeph2 := h2
  simp only [d_Ty, v_Ty, d_Sta, v_Sta, d_Snap, v_Snap, d_Fr, v_Fr, varsD, varD, List.cons.injEq, Dt.z.injEq, Dt.l.injEq, b2i_eq_iff, Nat.reduceAdd, and_true] at h2
  have e2 := (varsD_ag ha2 _ 349 (by decide)).trans keepe
  have keepe2 := e2
  simp only [d_Ty, v_Ty, d_Sta, v_Sta, d_Snap, v_Snap, d_Fr, v_Fr, varsD, varD, List.cons.injEq, Dt.z.injEq, Dt.l.injEq, b2i_eq_iff, Nat.reduceAdd, and_true] at e2
  simp only [g2, h2, hds2, e2, -eq_self]
  refine ⟨fun c24 => ?_, fun c24 => ?_⟩
  refine ⟨fun c25 => ?_, fun c25 => ?_⟩
  refine ⟨fun c26 => ?_, fun c26 => ?_⟩
  refine ⟨fun c27 => ?_, fun c27 => ?_⟩
  · have e := eqz c26
    subst e
    refine ⟨⟨1, ?_, by omega, by omega⟩, ?_⟩
    · rw [ssome_at0, c25, Bool.true_and]; unfold rset; rw [c27]; rfl
    · show (100 - (1 : Int)).toNat < (100 - (0 : Int)).toNat; decide
  refine ⟨fun c28 => ?_, fun c28 => ?_⟩
  · (simp only [beq_eq_false_iff_ne, beq_iff_eq, decide_eq_true_eq, decide_eq_false_iff_not] at *; omega)
  · have e := eqz c26
    subst e
    refine ⟨⟨1, ?_, by omega, by omega⟩, ?_⟩
    · rw [ssome_at0, c25, Bool.true_and]; unfold rset; rw [c27]; rfl
    · show (100 - (1 : Int)).toNat < (100 - (0 : Int)).toNat; decide
  refine ⟨fun c29 => ?_, fun c29 => ?_⟩
  refine ⟨fun c30 => ?_, fun c30 => ?_⟩
  · have e := eqz c29
    subst e
    refine ⟨⟨2, ?_, by omega, by omega⟩, ?_⟩
    · rw [ssome_at1, c25, Bool.true_and]; unfold rset; rw [c30]; rfl
    · show (100 - (2 : Int)).toNat < (100 - (1 : Int)).toNat; decide
  refine ⟨fun c31 => ?_, fun c31 => ?_⟩
  · (simp only [beq_eq_false_iff_ne, beq_iff_eq, decide_eq_true_eq, decide_eq_false_iff_not] at *; omega)
  · have e := eqz c29
    subst e
    refine ⟨⟨2, ?_, by omega, by omega⟩, ?_⟩
    · rw [ssome_at1, c25, Bool.true_and]; unfold rset; rw [c30]; rfl
    · show (100 - (2 : Int)).toNat < (100 - (1 : Int)).toNat; decide
  refine ⟨fun c32 => ?_, fun c32 => ?_⟩
  refine ⟨fun c33 => ?_, fun c33 => ?_⟩
  · have e := eqz c32
    subst e
    refine ⟨⟨3, ?_, by omega, by omega⟩, ?_⟩
    · rw [ssome_at2, c25, Bool.true_and]; unfold rset; rw [c33]; rfl
    · show (100 - (3 : Int)).toNat < (100 - (2 : Int)).toNat; decide
  refine ⟨fun c34 => ?_, fun c34 => ?_⟩
  · (simp only [beq_eq_false_iff_ne, beq_iff_eq, decide_eq_true_eq, decide_eq_false_iff_not] at *; omega)
  · have e := eqz c32
    subst e
    refine ⟨⟨3, ?_, by omega, by omega⟩, ?_⟩
    · rw [ssome_at2, c25, Bool.true_and]; unfold rset; rw [c33]; rfl
    · show (100 - (3 : Int)).toNat < (100 - (2 : Int)).toNat; decide
  refine ⟨fun c35 => ?_, fun c35 => ?_⟩
  refine ⟨fun c36 => ?_, fun c36 => ?_⟩
  · have e := eqz c35
    subst e
    refine ⟨⟨4, ?_, by omega, by omega⟩, ?_⟩
    · rw [ssome_at3, c25, Bool.true_and]; unfold rset; rw [c36]; rfl
    · show (100 - (4 : Int)).toNat < (100 - (3 : Int)).toNat; decide
  refine ⟨fun c37 => ?_, fun c37 => ?_⟩
  · (simp only [beq_eq_false_iff_ne, beq_iff_eq, decide_eq_true_eq, decide_eq_false_iff_not] at *; omega)
  · have e := eqz c35
    subst e
    refine ⟨⟨4, ?_, by omega, by omega⟩, ?_⟩
    · rw [ssome_at3, c25, Bool.true_and]; unfold rset; rw [c36]; rfl
    · show (100 - (4 : Int)).toNat < (100 - (3 : Int)).toNat; decide
  refine ⟨fun c38 => ?_, fun c38 => ?_⟩
  refine ⟨fun c39 => ?_, fun c39 => ?_⟩
  · have e := eqz c38
    subst e
    refine ⟨⟨5, ?_, by omega, by omega⟩, ?_⟩
    · rw [ssome_at4, c25, Bool.true_and]; unfold rset; rw [c39]; rfl
    · show (100 - (5 : Int)).toNat < (100 - (4 : Int)).toNat; decide
  refine ⟨fun c40 => ?_, fun c40 => ?_⟩
  · (simp only [beq_eq_false_iff_ne, beq_iff_eq, decide_eq_true_eq, decide_eq_false_iff_not] at *; omega)
  · have e := eqz c38
    subst e
    refine ⟨⟨5, ?_, by omega, by omega⟩, ?_⟩
    · rw [ssome_at4, c25, Bool.true_and]; unfold rset; rw [c39]; rfl
    · show (100 - (5 : Int)).toNat < (100 - (4 : Int)).toNat; decide
  refine ⟨fun c41 => ?_, fun c41 => ?_⟩
  refine ⟨fun c42 => ?_, fun c42 => ?_⟩
  · have e := eqz c41
    subst e
    refine ⟨⟨6, ?_, by omega, by omega⟩, ?_⟩
    · rw [ssome_at5, c25, Bool.true_and]; unfold rset; rw [c42]; rfl
    · show (100 - (6 : Int)).toNat < (100 - (5 : Int)).toNat; decide
  refine ⟨fun c43 => ?_, fun c43 => ?_⟩
  · (simp only [beq_eq_false_iff_ne, beq_iff_eq, decide_eq_true_eq, decide_eq_false_iff_not] at *; omega)
  · have e := eqz c41
    subst e
    refine ⟨⟨6, ?_, by omega, by omega⟩, ?_⟩
    · rw [ssome_at5, c25, Bool.true_and]; unfold rset; rw [c42]; rfl
    · show (100 - (6 : Int)).toNat < (100 - (5 : Int)).toNat; decide
  refine ⟨fun c44 => ?_, fun c44 => ?_⟩
  refine ⟨fun c45 => ?_, fun c45 => ?_⟩
  · have e := eqz c44
    subst e
    refine ⟨⟨7, ?_, by omega, by omega⟩, ?_⟩
    · rw [ssome_at6, c25, Bool.true_and]; unfold rset; rw [c45]; rfl
    · show (100 - (7 : Int)).toNat < (100 - (6 : Int)).toNat; decide
  refine ⟨fun c46 => ?_, fun c46 => ?_⟩
  · (simp only [beq_eq_false_iff_ne, beq_iff_eq, decide_eq_true_eq, decide_eq_false_iff_not] at *; omega)
  · have e := eqz c44
    subst e
    refine ⟨⟨7, ?_, by omega, by omega⟩, ?_⟩
    · rw [ssome_at6, c25, Bool.true_and]; unfold rset; rw [c45]; rfl
    · show (100 - (7 : Int)).toNat < (100 - (6 : Int)).toNat; decide
  refine ⟨fun c47 => ?_, fun c47 => ?_⟩
  refine ⟨fun c48 => ?_, fun c48 => ?_⟩
  · have e := eqz c47
    subst e
    refine ⟨⟨8, ?_, by omega, by omega⟩, ?_⟩
    · rw [ssome_at7, c25, Bool.true_and]; unfold rset; rw [c48]; rfl
    · show (100 - (8 : Int)).toNat < (100 - (7 : Int)).toNat; decide
  refine ⟨fun c49 => ?_, fun c49 => ?_⟩
  · (simp only [beq_eq_false_iff_ne, beq_iff_eq, decide_eq_true_eq, decide_eq_false_iff_not] at *; omega)
  · have e := eqz c47
    subst e
    refine ⟨⟨8, ?_, by omega, by omega⟩, ?_⟩
    · rw [ssome_at7, c25, Bool.true_and]; unfold rset; rw [c48]; rfl
    · show (100 - (8 : Int)).toNat < (100 - (7 : Int)).toNat; decide
  refine ⟨fun c50 => ?_, fun c50 => ?_⟩
  refine ⟨fun c51 => ?_, fun c51 => ?_⟩
  · have e := eqz c50
    subst e
    refine ⟨⟨9, ?_, by omega, by omega⟩, ?_⟩
    · rw [ssome_at8, c25, Bool.true_and]; unfold rset; rw [c51]; rfl
    · show (100 - (9 : Int)).toNat < (100 - (8 : Int)).toNat; decide
  refine ⟨fun c52 => ?_, fun c52 => ?_⟩
  · (simp only [beq_eq_false_iff_ne, beq_iff_eq, decide_eq_true_eq, decide_eq_false_iff_not] at *; omega)
  · have e := eqz c50
    subst e
    refine ⟨⟨9, ?_, by omega, by omega⟩, ?_⟩
    · rw [ssome_at8, c25, Bool.true_and]; unfold rset; rw [c51]; rfl
    · show (100 - (9 : Int)).toNat < (100 - (8 : Int)).toNat; decide
  refine ⟨fun c53 => ?_, fun c53 => ?_⟩
  refine ⟨fun c54 => ?_, fun c54 => ?_⟩
  · have e := eqz c53
    subst e
    refine ⟨⟨10, ?_, by omega, by omega⟩, ?_⟩
    · rw [ssome_at9, c25, Bool.true_and]; unfold rset; rw [c54]; rfl
    · show (100 - (10 : Int)).toNat < (100 - (9 : Int)).toNat; decide
  refine ⟨fun c55 => ?_, fun c55 => ?_⟩
  · (simp only [beq_eq_false_iff_ne, beq_iff_eq, decide_eq_true_eq, decide_eq_false_iff_not] at *; omega)
  · have e := eqz c53
    subst e
    refine ⟨⟨10, ?_, by omega, by omega⟩, ?_⟩
    · rw [ssome_at9, c25, Bool.true_and]; unfold rset; rw [c54]; rfl
    · show (100 - (10 : Int)).toNat < (100 - (9 : Int)).toNat; decide
  refine ⟨fun c56 => ?_, fun c56 => ?_⟩
  refine ⟨fun c57 => ?_, fun c57 => ?_⟩
  · have e := eqz c56
    subst e
    refine ⟨⟨11, ?_, by omega, by omega⟩, ?_⟩
    · rw [ssome_at10, c25, Bool.true_and]; unfold rset; rw [c57]; rfl
    · show (100 - (11 : Int)).toNat < (100 - (10 : Int)).toNat; decide
  refine ⟨fun c58 => ?_, fun c58 => ?_⟩
  · (simp only [beq_eq_false_iff_ne, beq_iff_eq, decide_eq_true_eq, decide_eq_false_iff_not] at *; omega)
  · have e := eqz c56
    subst e
    refine ⟨⟨11, ?_, by omega, by omega⟩, ?_⟩
    · rw [ssome_at10, c25, Bool.true_and]; unfold rset; rw [c57]; rfl
    · show (100 - (11 : Int)).toNat < (100 - (10 : Int)).toNat; decide
  · (simp only [beq_eq_false_iff_ne, beq_iff_eq, decide_eq_true_eq, decide_eq_false_iff_not] at *; omega)
  · refine ⟨⟨m0 + 1, ?_, by omega, by have := of_decide_eq_true c24; omega⟩, ?_⟩
    · rw [ssome_false c25, add1 (by omega) (by omega)]; try rfl
    · show (100 - opI .add .i64 m0 1).toNat < (100 - m0).toNat; rw [add1 (by omega) (by omega)]; have := of_decide_eq_true c24; omega
  obtain rfl : m0 = 11 := (by have := of_decide_eq_false c24; omega)
  refine ⟨fun ds => ∃ b : Sta, ds = regsD b ∧ (b.r0 = a.r0 ∨ b.r0 = tnil) ∧ (b.r1 = a.r1 ∨ b.r1 = tnil) ∧ (b.r2 = a.r2 ∨ b.r2 = tnil) ∧ (b.r3 = a.r3 ∨ b.r3 = tnil) ∧ (b.r4 = a.r4 ∨ b.r4 = tnil) ∧ (b.r5 = a.r5 ∨ b.r5 = tnil) ∧ (b.r6 = a.r6 ∨ b.r6 = tnil) ∧ (b.r7 = a.r7 ∨ b.r7 = tnil) ∧ (b.r8 = a.r8 ∨ b.r8 = tnil) ∧ (b.r9 = a.r9 ∨ b.r9 = tnil) ∧ (b.r10 = a.r10 ∨ b.r10 = tnil), ?_, ?_⟩
  refine ⟨fun c59 => ?_, fun c59 => ?_⟩
  · exact ⟨{ a with r0 := tnil }, rfl, .inr rfl, .inl rfl, .inl rfl, .inl rfl, .inl rfl, .inl rfl, .inl rfl, .inl rfl, .inl rfl, .inl rfl, .inl rfl⟩
  refine ⟨fun c60 => ?_, fun c60 => ?_⟩
  · exact ⟨{ a with r1 := tnil }, rfl, .inl rfl, .inr rfl, .inl rfl, .inl rfl, .inl rfl, .inl rfl, .inl rfl, .inl rfl, .inl rfl, .inl rfl, .inl rfl⟩
  refine ⟨fun c61 => ?_, fun c61 => ?_⟩
  · exact ⟨{ a with r2 := tnil }, rfl, .inl rfl, .inl rfl, .inr rfl, .inl rfl, .inl rfl, .inl rfl, .inl rfl, .inl rfl, .inl rfl, .inl rfl, .inl rfl⟩
  refine ⟨fun c62 => ?_, fun c62 => ?_⟩
  · exact ⟨{ a with r3 := tnil }, rfl, .inl rfl, .inl rfl, .inl rfl, .inr rfl, .inl rfl, .inl rfl, .inl rfl, .inl rfl, .inl rfl, .inl rfl, .inl rfl⟩
  refine ⟨fun c63 => ?_, fun c63 => ?_⟩
  · exact ⟨{ a with r4 := tnil }, rfl, .inl rfl, .inl rfl, .inl rfl, .inl rfl, .inr rfl, .inl rfl, .inl rfl, .inl rfl, .inl rfl, .inl rfl, .inl rfl⟩
  refine ⟨fun c64 => ?_, fun c64 => ?_⟩
  · exact ⟨{ a with r5 := tnil }, rfl, .inl rfl, .inl rfl, .inl rfl, .inl rfl, .inl rfl, .inr rfl, .inl rfl, .inl rfl, .inl rfl, .inl rfl, .inl rfl⟩
  refine ⟨fun c65 => ?_, fun c65 => ?_⟩
  · exact ⟨{ a with r6 := tnil }, rfl, .inl rfl, .inl rfl, .inl rfl, .inl rfl, .inl rfl, .inl rfl, .inr rfl, .inl rfl, .inl rfl, .inl rfl, .inl rfl⟩
  refine ⟨fun c66 => ?_, fun c66 => ?_⟩
  · exact ⟨{ a with r7 := tnil }, rfl, .inl rfl, .inl rfl, .inl rfl, .inl rfl, .inl rfl, .inl rfl, .inl rfl, .inr rfl, .inl rfl, .inl rfl, .inl rfl⟩
  refine ⟨fun c67 => ?_, fun c67 => ?_⟩
  · exact ⟨{ a with r8 := tnil }, rfl, .inl rfl, .inl rfl, .inl rfl, .inl rfl, .inl rfl, .inl rfl, .inl rfl, .inl rfl, .inr rfl, .inl rfl, .inl rfl⟩
  refine ⟨fun c68 => ?_, fun c68 => ?_⟩
  · exact ⟨{ a with r9 := tnil }, rfl, .inl rfl, .inl rfl, .inl rfl, .inl rfl, .inl rfl, .inl rfl, .inl rfl, .inl rfl, .inl rfl, .inr rfl, .inl rfl⟩
  refine ⟨fun c69 => ?_, fun c69 => ?_⟩
  · exact ⟨{ a with r10 := tnil }, rfl, .inl rfl, .inl rfl, .inl rfl, .inl rfl, .inl rfl, .inl rfl, .inl rfl, .inl rfl, .inl rfl, .inl rfl, .inr rfl⟩
  · exact pick11 c59 c60 c61 c62 c63 c64 c65 c66 c67 c68 c69
  intro ρ3 ha3 _ hi3
  obtain ⟨b, hds3, q0, q1, q2, q3, q4, q5, q6, q7, q8, q9, q10⟩ := hi3
  simp only [regsD, List.cons.injEq, Dt.z.injEq, and_true] at hds3
  have g3 := (varsD_ag ha3 _ 0 (by decide)).trans keepg2
  simp only [d_Ty, v_Ty, d_Sta, v_Sta, d_Snap, v_Snap, d_Fr, v_Fr, varsD, varD, List.cons.injEq, Dt.z.injEq, Dt.l.injEq, b2i_eq_iff, Nat.reduceAdd, and_true] at g3
  have h3 := (varsD_ag ha3 _ 249 (by decide)).trans keeph2
  simp only [d_Ty, v_Ty, d_Sta, v_Sta, d_Snap, v_Snap, d_Fr, v_Fr, varsD, varD, List.cons.injEq, Dt.z.injEq, Dt.l.injEq, b2i_eq_iff, Nat.reduceAdd, and_true] at h3
  have e3 := (varsD_ag ha3 _ 349 (by decide)).trans keepe2
  simp only [d_Ty, v_Ty, d_Sta, v_Sta, d_Snap, v_Snap, d_Fr, v_Fr, varsD, varD, List.cons.injEq, Dt.z.injEq, Dt.l.injEq, b2i_eq_iff, Nat.reduceAdd, and_true] at e3
  have m3 := (ha3 359 (by decide)).2.1.symm.trans hds2.2
  simp only [g3, h3, e3, m3, hds3, -eq_self]
  intro e; (try simp only [e, etasX, -eq_self]); clear e
  refine ⟨fun c70 => ?_, fun c70 => ?_⟩
  intro e; (try simp only [e, etasX, -eq_self]); clear e
  refine ⟨fun c71 => ?_, fun c71 => ?_⟩
  intro e; (try simp only [e, etasX, -eq_self]); clear e
  refine ⟨fun c72 => ?_, fun c72 => ?_⟩
  intro e; (try simp only [e, etasX, -eq_self]); clear e
  refine ⟨fun c73 => ?_, fun c73 => ?_⟩
  intro e; (try simp only [e, etasX, -eq_self]); clear e
  refine ⟨fun c74 => ?_, fun c74 => ?_⟩
  intro e; (try simp only [e, etasX, -eq_self]); clear e
  refine ⟨fun c75 => ?_, fun c75 => ?_⟩
  intro e; (try simp only [e, etasX, -eq_self]); clear e
  · rfl
  · exact Bool.noConfusion (((few ha c0 q0 q1 q2 q3 q4 q5 q6 q7 q8 q9 q10).2 x c74).symm.trans c75)
  intro e; (try simp only [e, etasX, -eq_self]); clear e
  · rfl
  · exact Bool.noConfusion ((few ha c0 q0 q1 q2 q3 q4 q5 q6 q7 q8 q9 q10).1.symm.trans c73)
  · exact absurd c72 (by rw [beq_eq_false_iff_ne]; exact fun h => h (shas_of c0 hx))
  · exact Bool.noConfusion ((sin_all c0).symm.trans c71)
  · exact Bool.noConfusion ((smay_all c0).symm.trans c70)
  intro e; (try simp only [e, etasX, -eq_self]); clear e
  · rfl
theorem sC_saall (xs : List Dt) (vals : List Value) (w : World) (hw : shRel w [.agg kSta, .agg kSnap, .one (.int .i64)] xs vals) : Calls Try.prog 4 vals.toArray w fun e w' => ∃ v, e = .returned v ∧ RetOk [.one .bool] false w w' (sF_saall xs) v :=
  (fun_calls (by kernel_rfl) tysok_SdO (smc (sK_ymay rfl) (smc (sK_twakes rfl) (smc (sK_tscal rfl) (smc (sK_tmay rfl) (smc (sK_tin rfl) (smc (sK_thas rfl) sm0)))))) Try.func4 fn0 sR_saall (pre := fun _ => True) (for_Sta fun q0 gq0 => for_Snap fun q1 gq1 => fun x247 gx247 hp ρ g => sX_saall q0 gq0 q1 gq1 x247 gx247 ρ g) xs vals w hw trivial).2
theorem rwU8 : Rw Try.prog 5 [some .u8] := Rw.int .u8 Try.underlying5 (by kernel_rfl)
theorem rwI8 : Rw Try.prog 22 [some .i8] := Rw.int .i8 Try.underlying22 (by kernel_rfl)
theorem rwN : Rw Try.prog 3 [some .i64] := Rw.int .i64 Try.underlying3 (by kernel_rfl)
theorem rwU : Rw Try.prog 23 [some .u64] := Rw.int .u64 Try.underlying23 (by kernel_rfl)
theorem rwI : Rw Try.prog 2 [some .i64] := Rw.int .i64 Try.underlying2 (by kernel_rfl)
theorem rwRg : Rw Try.prog 25 [some .u64, some .u64, some .i64, some .i64] := by
  refine Rw.struct (ks := [some .u64, some .u64, some .i64, some .i64]) ?_ Try.underlying25 (by kernel_rfl)
  exact (RwSeq.cons (ks := [some .u64]) rwU (by rfl) (RwSeq.cons (ks := [some .u64]) rwU (by rfl) (RwSeq.cons (ks := [some .i64]) rwI (by rfl) (RwSeq.cons (ks := [some .i64]) rwI (by rfl) (RwSeq.nil _ _)))))
theorem rwKn : Rw Try.prog 27 [some .u64, some .u64] := by
  refine Rw.struct (ks := [some .u64, some .u64]) ?_ Try.underlying27 (by kernel_rfl)
  exact (RwSeq.cons (ks := [some .u64]) rwU (by rfl) (RwSeq.cons (ks := [some .u64]) rwU (by rfl) (RwSeq.nil _ _)))
theorem rwSc : Rw Try.prog 29 [some .u64, some .u64, some .i64, some .i64, some .u64, some .u64] := by
  refine Rw.struct (ks := [some .u64, some .u64, some .i64, some .i64, some .u64, some .u64]) ?_ Try.underlying29 (by kernel_rfl)
  exact (RwSeq.cons (ks := [some .u64, some .u64, some .i64, some .i64]) rwRg (by rfl) (RwSeq.cons (ks := [some .u64, some .u64]) rwKn (by rfl) (RwSeq.nil _ _)))
theorem rwTy : Rw Try.prog 31 [some .i8, some .u64, some .u64, some .i64, some .i64, some .u64, some .u64, some .i64, some .i64] := by
  refine Rw.struct (ks := [some .i8, some .u64, some .u64, some .i64, some .i64, some .u64, some .u64, some .i64, some .i64]) ?_ Try.underlying31 (by kernel_rfl)
  exact (RwSeq.cons (ks := [some .i8]) rwI8 (by rfl) (RwSeq.cons (ks := [some .u64, some .u64, some .i64, some .i64, some .u64, some .u64]) rwSc (by rfl) (RwSeq.cons (ks := [some .i64]) rwN (by rfl) (RwSeq.cons (ks := [some .i64]) rwN (by rfl) (RwSeq.nil _ _)))))
set_option maxRecDepth 100000 in
theorem rwTs11 : Rw Try.prog 32 (repL [some .i8, some .u64, some .u64, some .i64, some .i64, some .u64, some .u64, some .i64, some .i64] 11) := Rw.array rwTy Try.underlying32 (by kernel_rfl)
set_option maxRecDepth 100000 in
theorem rwTs8 : Rw Try.prog 33 (repL [some .i8, some .u64, some .u64, some .i64, some .i64, some .u64, some .u64, some .i64, some .i64] 8) := Rw.array rwTy Try.underlying33 (by kernel_rfl)
set_option maxRecDepth 100000 in
theorem rwU11 : Rw Try.prog 41 (repL [some .u64] 11) := Rw.array rwU Try.underlying41 (by kernel_rfl)
set_option maxRecDepth 100000 in
theorem rwB64 : Rw Try.prog 42 (repL [some .u8] 64) := Rw.array rwU8 Try.underlying42 (by kernel_rfl)
set_option maxRecDepth 100000 in
theorem rwSta : Rw Try.prog 35 ((repL [some .i8, some .u64, some .u64, some .i64, some .i64, some .u64, some .u64, some .i64, some .i64] 11) ++ ((repL [some .i8, some .u64, some .u64, some .i64, some .i64, some .u64, some .u64, some .i64, some .i64] 8) ++ [])) := Rw.struct (ks := ((repL [some .i8, some .u64, some .u64, some .i64, some .i64, some .u64, some .u64, some .i64, some .i64] 11) ++ ((repL [some .i8, some .u64, some .u64, some .i64, some .i64, some .u64, some .u64, some .i64, some .i64] 8) ++ []))) (RwSeq.cons (ks := (repL [some .i8, some .u64, some .u64, some .i64, some .i64, some .u64, some .u64, some .i64, some .i64] 11)) rwTs11 (by rfl) (RwSeq.cons (ks := (repL [some .i8, some .u64, some .u64, some .i64, some .i64, some .u64, some .u64, some .i64, some .i64] 8)) rwTs8 (by rfl) (RwSeq.nil _ _))) Try.underlying35 (by kernel_rfl)
set_option maxRecDepth 100000 in
theorem rwSnap : Rw Try.prog 44 ((repL [some .u64] 11) ++ ([some .i64] ++ ((repL [some .u8] 64) ++ []))) := Rw.struct (ks := ((repL [some .u64] 11) ++ ([some .i64] ++ ((repL [some .u8] 64) ++ [])))) (RwSeq.cons (ks := (repL [some .u64] 11)) rwU11 (by rfl) (RwSeq.cons (ks := [some .i64]) rwN (by rfl) (RwSeq.cons (ks := (repL [some .u8] 64)) rwB64 (by rfl) (RwSeq.nil _ _)))) Try.underlying44 (by kernel_rfl)
def ec_Ty (t : List CE) : List CE := some .i8 :: some .u64 :: some .u64 :: some .i64 :: some .i64 :: some .u64 :: some .u64 :: some .i64 :: some .i64 :: t
def ck_Ty (t : List CK) : List CK := .int .i8 :: .int .u64 :: .int .u64 :: .int .i64 :: .int .i64 :: .int .u64 :: .int .u64 :: .int .i64 :: .int .i64 :: t
set_option maxRecDepth 100000 in
theorem row_Ty {ks : List CE} {q : List Int} (h : rowIn (ec_Ty ks) q = true) : ∃ (a : Ty) (q' : List Int), Ty.ok a ∧ rowIn ks q' = true ∧ ∀ (w : World) (cs : List CK) (xs r : List Dt), cksRel w cs xs (rowV ks q') r → cksRel w (ck_Ty cs) (d_Ty a xs) (rowV (ec_Ty ks) q) r := by
  obtain ⟨y0, q, rfl, e0, h⟩ := rowIn_cons h
  obtain ⟨y1, q, rfl, e1, h⟩ := rowIn_cons h
  obtain ⟨y2, q, rfl, e2, h⟩ := rowIn_cons h
  obtain ⟨y3, q, rfl, e3, h⟩ := rowIn_cons h
  obtain ⟨y4, q, rfl, e4, h⟩ := rowIn_cons h
  obtain ⟨y5, q, rfl, e5, h⟩ := rowIn_cons h
  obtain ⟨y6, q, rfl, e6, h⟩ := rowIn_cons h
  obtain ⟨y7, q, rfl, e7, h⟩ := rowIn_cons h
  obtain ⟨y8, q, rfl, e8, h⟩ := rowIn_cons h
  exact ⟨⟨y0, y1, y2, y3, y4, y5, y6, y7, y8⟩, q, ⟨e0, e1, e2, e3, e4, e5, e6, e7, e8⟩, h, fun w cs xs r hr => ⟨_, _, _, rfl, ⟨_, rfl, rfl, e0⟩, ⟨_, _, _, rfl, ⟨_, rfl, rfl, e1⟩, ⟨_, _, _, rfl, ⟨_, rfl, rfl, e2⟩, ⟨_, _, _, rfl, ⟨_, rfl, rfl, e3⟩, ⟨_, _, _, rfl, ⟨_, rfl, rfl, e4⟩, ⟨_, _, _, rfl, ⟨_, rfl, rfl, e5⟩, ⟨_, _, _, rfl, ⟨_, rfl, rfl, e6⟩, ⟨_, _, _, rfl, ⟨_, rfl, rfl, e7⟩, ⟨_, _, _, rfl, ⟨_, rfl, rfl, e8⟩, hr⟩⟩⟩⟩⟩⟩⟩⟩⟩⟩
def ec_Sta (t : List CE) : List CE := ec_Ty (ec_Ty (ec_Ty (ec_Ty (ec_Ty (ec_Ty (ec_Ty (ec_Ty (ec_Ty (ec_Ty (ec_Ty (ec_Ty (ec_Ty (ec_Ty (ec_Ty (ec_Ty (ec_Ty (ec_Ty (ec_Ty (t)))))))))))))))))))
def ck_Sta (t : List CK) : List CK := ck_Ty (ck_Ty (ck_Ty (ck_Ty (ck_Ty (ck_Ty (ck_Ty (ck_Ty (ck_Ty (ck_Ty (ck_Ty (ck_Ty (ck_Ty (ck_Ty (ck_Ty (ck_Ty (ck_Ty (ck_Ty (ck_Ty (t)))))))))))))))))))
set_option maxRecDepth 100000 in
theorem row_Sta {ks : List CE} {q : List Int} (h : rowIn (ec_Sta ks) q = true) : ∃ (a : Sta) (q' : List Int), Sta.ok a ∧ rowIn ks q' = true ∧ ∀ (w : World) (cs : List CK) (xs r : List Dt), cksRel w cs xs (rowV ks q') r → cksRel w (ck_Sta cs) (d_Sta a xs) (rowV (ec_Sta ks) q) r := by
  obtain ⟨r0, q_r0, o_r0, h, s_r0⟩ := row_Ty h
  obtain ⟨r1, q_r1, o_r1, h, s_r1⟩ := row_Ty h
  obtain ⟨r2, q_r2, o_r2, h, s_r2⟩ := row_Ty h
  obtain ⟨r3, q_r3, o_r3, h, s_r3⟩ := row_Ty h
  obtain ⟨r4, q_r4, o_r4, h, s_r4⟩ := row_Ty h
  obtain ⟨r5, q_r5, o_r5, h, s_r5⟩ := row_Ty h
  obtain ⟨r6, q_r6, o_r6, h, s_r6⟩ := row_Ty h
  obtain ⟨r7, q_r7, o_r7, h, s_r7⟩ := row_Ty h
  obtain ⟨r8, q_r8, o_r8, h, s_r8⟩ := row_Ty h
  obtain ⟨r9, q_r9, o_r9, h, s_r9⟩ := row_Ty h
  obtain ⟨r10, q_r10, o_r10, h, s_r10⟩ := row_Ty h
  obtain ⟨s0, q_s0, o_s0, h, s_s0⟩ := row_Ty h
  obtain ⟨s1, q_s1, o_s1, h, s_s1⟩ := row_Ty h
  obtain ⟨s2, q_s2, o_s2, h, s_s2⟩ := row_Ty h
  obtain ⟨s3, q_s3, o_s3, h, s_s3⟩ := row_Ty h
  obtain ⟨s4, q_s4, o_s4, h, s_s4⟩ := row_Ty h
  obtain ⟨s5, q_s5, o_s5, h, s_s5⟩ := row_Ty h
  obtain ⟨s6, q_s6, o_s6, h, s_s6⟩ := row_Ty h
  obtain ⟨s7, q_s7, o_s7, h, s_s7⟩ := row_Ty h
  exact ⟨⟨r0, r1, r2, r3, r4, r5, r6, r7, r8, r9, r10, s0, s1, s2, s3, s4, s5, s6, s7⟩, _, ⟨o_r0, o_r1, o_r2, o_r3, o_r4, o_r5, o_r6, o_r7, o_r8, o_r9, o_r10, o_s0, o_s1, o_s2, o_s3, o_s4, o_s5, o_s6, o_s7⟩, h, fun w cs xs r hr => s_r0 w _ _ _ (s_r1 w _ _ _ (s_r2 w _ _ _ (s_r3 w _ _ _ (s_r4 w _ _ _ (s_r5 w _ _ _ (s_r6 w _ _ _ (s_r7 w _ _ _ (s_r8 w _ _ _ (s_r9 w _ _ _ (s_r10 w _ _ _ (s_s0 w _ _ _ (s_s1 w _ _ _ (s_s2 w _ _ _ (s_s3 w _ _ _ (s_s4 w _ _ _ (s_s5 w _ _ _ (s_s6 w _ _ _ (s_s7 w _ _ _ hr))))))))))))))))))⟩
set_option maxRecDepth 100000 in
theorem arg_Sta {q : List Int} (h : rowIn (ec_Sta []) q = true) : ∃ a : Sta, Sta.ok a ∧ ∀ (w : World) (r : List Dt), cksRel w kSta (d_Sta a r) (rowV (ec_Sta []) q) r := by
  obtain ⟨a, q', o, h, s⟩ := row_Sta h
  obtain rfl := rowIn_nil h
  exact ⟨a, o, fun w r => s w [] _ _ ⟨rfl, rfl⟩⟩
def ec_Snap (t : List CE) : List CE := some .u64 :: some .u64 :: some .u64 :: some .u64 :: some .u64 :: some .u64 :: some .u64 :: some .u64 :: some .u64 :: some .u64 :: some .u64 :: some .i64 :: some .u8 :: some .u8 :: some .u8 :: some .u8 :: some .u8 :: some .u8 :: some .u8 :: some .u8 :: some .u8 :: some .u8 :: some .u8 :: some .u8 :: some .u8 :: some .u8 :: some .u8 :: some .u8 :: some .u8 :: some .u8 :: some .u8 :: some .u8 :: some .u8 :: some .u8 :: some .u8 :: some .u8 :: some .u8 :: some .u8 :: some .u8 :: some .u8 :: some .u8 :: some .u8 :: some .u8 :: some .u8 :: some .u8 :: some .u8 :: some .u8 :: some .u8 :: some .u8 :: some .u8 :: some .u8 :: some .u8 :: some .u8 :: some .u8 :: some .u8 :: some .u8 :: some .u8 :: some .u8 :: some .u8 :: some .u8 :: some .u8 :: some .u8 :: some .u8 :: some .u8 :: some .u8 :: some .u8 :: some .u8 :: some .u8 :: some .u8 :: some .u8 :: some .u8 :: some .u8 :: some .u8 :: some .u8 :: some .u8 :: some .u8 :: t
def ck_Snap (t : List CK) : List CK := .int .u64 :: .int .u64 :: .int .u64 :: .int .u64 :: .int .u64 :: .int .u64 :: .int .u64 :: .int .u64 :: .int .u64 :: .int .u64 :: .int .u64 :: .int .i64 :: .int .u8 :: .int .u8 :: .int .u8 :: .int .u8 :: .int .u8 :: .int .u8 :: .int .u8 :: .int .u8 :: .int .u8 :: .int .u8 :: .int .u8 :: .int .u8 :: .int .u8 :: .int .u8 :: .int .u8 :: .int .u8 :: .int .u8 :: .int .u8 :: .int .u8 :: .int .u8 :: .int .u8 :: .int .u8 :: .int .u8 :: .int .u8 :: .int .u8 :: .int .u8 :: .int .u8 :: .int .u8 :: .int .u8 :: .int .u8 :: .int .u8 :: .int .u8 :: .int .u8 :: .int .u8 :: .int .u8 :: .int .u8 :: .int .u8 :: .int .u8 :: .int .u8 :: .int .u8 :: .int .u8 :: .int .u8 :: .int .u8 :: .int .u8 :: .int .u8 :: .int .u8 :: .int .u8 :: .int .u8 :: .int .u8 :: .int .u8 :: .int .u8 :: .int .u8 :: .int .u8 :: .int .u8 :: .int .u8 :: .int .u8 :: .int .u8 :: .int .u8 :: .int .u8 :: .int .u8 :: .int .u8 :: .int .u8 :: .int .u8 :: .int .u8 :: t
set_option maxRecDepth 100000 in
theorem row_Snap {ks : List CE} {q : List Int} (h : rowIn (ec_Snap ks) q = true) : ∃ (a : Snap) (q' : List Int), Snap.ok a ∧ rowIn ks q' = true ∧ ∀ (w : World) (cs : List CK) (xs r : List Dt), cksRel w cs xs (rowV ks q') r → cksRel w (ck_Snap cs) (d_Snap a xs) (rowV (ec_Snap ks) q) r := by
  obtain ⟨y0, q, rfl, e0, h⟩ := rowIn_cons h
  obtain ⟨y1, q, rfl, e1, h⟩ := rowIn_cons h
  obtain ⟨y2, q, rfl, e2, h⟩ := rowIn_cons h
  obtain ⟨y3, q, rfl, e3, h⟩ := rowIn_cons h
  obtain ⟨y4, q, rfl, e4, h⟩ := rowIn_cons h
  obtain ⟨y5, q, rfl, e5, h⟩ := rowIn_cons h
  obtain ⟨y6, q, rfl, e6, h⟩ := rowIn_cons h
  obtain ⟨y7, q, rfl, e7, h⟩ := rowIn_cons h
  obtain ⟨y8, q, rfl, e8, h⟩ := rowIn_cons h
  obtain ⟨y9, q, rfl, e9, h⟩ := rowIn_cons h
  obtain ⟨y10, q, rfl, e10, h⟩ := rowIn_cons h
  obtain ⟨y11, q, rfl, e11, h⟩ := rowIn_cons h
  obtain ⟨y12, q, rfl, e12, h⟩ := rowIn_cons h
  obtain ⟨y13, q, rfl, e13, h⟩ := rowIn_cons h
  obtain ⟨y14, q, rfl, e14, h⟩ := rowIn_cons h
  obtain ⟨y15, q, rfl, e15, h⟩ := rowIn_cons h
  obtain ⟨y16, q, rfl, e16, h⟩ := rowIn_cons h
  obtain ⟨y17, q, rfl, e17, h⟩ := rowIn_cons h
  obtain ⟨y18, q, rfl, e18, h⟩ := rowIn_cons h
  obtain ⟨y19, q, rfl, e19, h⟩ := rowIn_cons h
  obtain ⟨y20, q, rfl, e20, h⟩ := rowIn_cons h
  obtain ⟨y21, q, rfl, e21, h⟩ := rowIn_cons h
  obtain ⟨y22, q, rfl, e22, h⟩ := rowIn_cons h
  obtain ⟨y23, q, rfl, e23, h⟩ := rowIn_cons h
  obtain ⟨y24, q, rfl, e24, h⟩ := rowIn_cons h
  obtain ⟨y25, q, rfl, e25, h⟩ := rowIn_cons h
  obtain ⟨y26, q, rfl, e26, h⟩ := rowIn_cons h
  obtain ⟨y27, q, rfl, e27, h⟩ := rowIn_cons h
  obtain ⟨y28, q, rfl, e28, h⟩ := rowIn_cons h
  obtain ⟨y29, q, rfl, e29, h⟩ := rowIn_cons h
  obtain ⟨y30, q, rfl, e30, h⟩ := rowIn_cons h
  obtain ⟨y31, q, rfl, e31, h⟩ := rowIn_cons h
  obtain ⟨y32, q, rfl, e32, h⟩ := rowIn_cons h
  obtain ⟨y33, q, rfl, e33, h⟩ := rowIn_cons h
  obtain ⟨y34, q, rfl, e34, h⟩ := rowIn_cons h
  obtain ⟨y35, q, rfl, e35, h⟩ := rowIn_cons h
  obtain ⟨y36, q, rfl, e36, h⟩ := rowIn_cons h
  obtain ⟨y37, q, rfl, e37, h⟩ := rowIn_cons h
  obtain ⟨y38, q, rfl, e38, h⟩ := rowIn_cons h
  obtain ⟨y39, q, rfl, e39, h⟩ := rowIn_cons h
  obtain ⟨y40, q, rfl, e40, h⟩ := rowIn_cons h
  obtain ⟨y41, q, rfl, e41, h⟩ := rowIn_cons h
  obtain ⟨y42, q, rfl, e42, h⟩ := rowIn_cons h
  obtain ⟨y43, q, rfl, e43, h⟩ := rowIn_cons h
  obtain ⟨y44, q, rfl, e44, h⟩ := rowIn_cons h
  obtain ⟨y45, q, rfl, e45, h⟩ := rowIn_cons h
  obtain ⟨y46, q, rfl, e46, h⟩ := rowIn_cons h
  obtain ⟨y47, q, rfl, e47, h⟩ := rowIn_cons h
  obtain ⟨y48, q, rfl, e48, h⟩ := rowIn_cons h
  obtain ⟨y49, q, rfl, e49, h⟩ := rowIn_cons h
  obtain ⟨y50, q, rfl, e50, h⟩ := rowIn_cons h
  obtain ⟨y51, q, rfl, e51, h⟩ := rowIn_cons h
  obtain ⟨y52, q, rfl, e52, h⟩ := rowIn_cons h
  obtain ⟨y53, q, rfl, e53, h⟩ := rowIn_cons h
  obtain ⟨y54, q, rfl, e54, h⟩ := rowIn_cons h
  obtain ⟨y55, q, rfl, e55, h⟩ := rowIn_cons h
  obtain ⟨y56, q, rfl, e56, h⟩ := rowIn_cons h
  obtain ⟨y57, q, rfl, e57, h⟩ := rowIn_cons h
  obtain ⟨y58, q, rfl, e58, h⟩ := rowIn_cons h
  obtain ⟨y59, q, rfl, e59, h⟩ := rowIn_cons h
  obtain ⟨y60, q, rfl, e60, h⟩ := rowIn_cons h
  obtain ⟨y61, q, rfl, e61, h⟩ := rowIn_cons h
  obtain ⟨y62, q, rfl, e62, h⟩ := rowIn_cons h
  obtain ⟨y63, q, rfl, e63, h⟩ := rowIn_cons h
  obtain ⟨y64, q, rfl, e64, h⟩ := rowIn_cons h
  obtain ⟨y65, q, rfl, e65, h⟩ := rowIn_cons h
  obtain ⟨y66, q, rfl, e66, h⟩ := rowIn_cons h
  obtain ⟨y67, q, rfl, e67, h⟩ := rowIn_cons h
  obtain ⟨y68, q, rfl, e68, h⟩ := rowIn_cons h
  obtain ⟨y69, q, rfl, e69, h⟩ := rowIn_cons h
  obtain ⟨y70, q, rfl, e70, h⟩ := rowIn_cons h
  obtain ⟨y71, q, rfl, e71, h⟩ := rowIn_cons h
  obtain ⟨y72, q, rfl, e72, h⟩ := rowIn_cons h
  obtain ⟨y73, q, rfl, e73, h⟩ := rowIn_cons h
  obtain ⟨y74, q, rfl, e74, h⟩ := rowIn_cons h
  obtain ⟨y75, q, rfl, e75, h⟩ := rowIn_cons h
  exact ⟨⟨y0, y1, y2, y3, y4, y5, y6, y7, y8, y9, y10, y11, y12, y13, y14, y15, y16, y17, y18, y19, y20, y21, y22, y23, y24, y25, y26, y27, y28, y29, y30, y31, y32, y33, y34, y35, y36, y37, y38, y39, y40, y41, y42, y43, y44, y45, y46, y47, y48, y49, y50, y51, y52, y53, y54, y55, y56, y57, y58, y59, y60, y61, y62, y63, y64, y65, y66, y67, y68, y69, y70, y71, y72, y73, y74, y75⟩, q, ⟨e0, e1, e2, e3, e4, e5, e6, e7, e8, e9, e10, e11, e12, e13, e14, e15, e16, e17, e18, e19, e20, e21, e22, e23, e24, e25, e26, e27, e28, e29, e30, e31, e32, e33, e34, e35, e36, e37, e38, e39, e40, e41, e42, e43, e44, e45, e46, e47, e48, e49, e50, e51, e52, e53, e54, e55, e56, e57, e58, e59, e60, e61, e62, e63, e64, e65, e66, e67, e68, e69, e70, e71, e72, e73, e74, e75⟩, h, fun w cs xs r hr => ⟨_, _, _, rfl, ⟨_, rfl, rfl, e0⟩, ⟨_, _, _, rfl, ⟨_, rfl, rfl, e1⟩, ⟨_, _, _, rfl, ⟨_, rfl, rfl, e2⟩, ⟨_, _, _, rfl, ⟨_, rfl, rfl, e3⟩, ⟨_, _, _, rfl, ⟨_, rfl, rfl, e4⟩, ⟨_, _, _, rfl, ⟨_, rfl, rfl, e5⟩, ⟨_, _, _, rfl, ⟨_, rfl, rfl, e6⟩, ⟨_, _, _, rfl, ⟨_, rfl, rfl, e7⟩, ⟨_, _, _, rfl, ⟨_, rfl, rfl, e8⟩, ⟨_, _, _, rfl, ⟨_, rfl, rfl, e9⟩, ⟨_, _, _, rfl, ⟨_, rfl, rfl, e10⟩, ⟨_, _, _, rfl, ⟨_, rfl, rfl, e11⟩, ⟨_, _, _, rfl, ⟨_, rfl, rfl, e12⟩, ⟨_, _, _, rfl, ⟨_, rfl, rfl, e13⟩, ⟨_, _, _, rfl, ⟨_, rfl, rfl, e14⟩, ⟨_, _, _, rfl, ⟨_, rfl, rfl, e15⟩, ⟨_, _, _, rfl, ⟨_, rfl, rfl, e16⟩, ⟨_, _, _, rfl, ⟨_, rfl, rfl, e17⟩, ⟨_, _, _, rfl, ⟨_, rfl, rfl, e18⟩, ⟨_, _, _, rfl, ⟨_, rfl, rfl, e19⟩, ⟨_, _, _, rfl, ⟨_, rfl, rfl, e20⟩, ⟨_, _, _, rfl, ⟨_, rfl, rfl, e21⟩, ⟨_, _, _, rfl, ⟨_, rfl, rfl, e22⟩, ⟨_, _, _, rfl, ⟨_, rfl, rfl, e23⟩, ⟨_, _, _, rfl, ⟨_, rfl, rfl, e24⟩, ⟨_, _, _, rfl, ⟨_, rfl, rfl, e25⟩, ⟨_, _, _, rfl, ⟨_, rfl, rfl, e26⟩, ⟨_, _, _, rfl, ⟨_, rfl, rfl, e27⟩, ⟨_, _, _, rfl, ⟨_, rfl, rfl, e28⟩, ⟨_, _, _, rfl, ⟨_, rfl, rfl, e29⟩, ⟨_, _, _, rfl, ⟨_, rfl, rfl, e30⟩, ⟨_, _, _, rfl, ⟨_, rfl, rfl, e31⟩, ⟨_, _, _, rfl, ⟨_, rfl, rfl, e32⟩, ⟨_, _, _, rfl, ⟨_, rfl, rfl, e33⟩, ⟨_, _, _, rfl, ⟨_, rfl, rfl, e34⟩, ⟨_, _, _, rfl, ⟨_, rfl, rfl, e35⟩, ⟨_, _, _, rfl, ⟨_, rfl, rfl, e36⟩, ⟨_, _, _, rfl, ⟨_, rfl, rfl, e37⟩, ⟨_, _, _, rfl, ⟨_, rfl, rfl, e38⟩, ⟨_, _, _, rfl, ⟨_, rfl, rfl, e39⟩, ⟨_, _, _, rfl, ⟨_, rfl, rfl, e40⟩, ⟨_, _, _, rfl, ⟨_, rfl, rfl, e41⟩, ⟨_, _, _, rfl, ⟨_, rfl, rfl, e42⟩, ⟨_, _, _, rfl, ⟨_, rfl, rfl, e43⟩, ⟨_, _, _, rfl, ⟨_, rfl, rfl, e44⟩, ⟨_, _, _, rfl, ⟨_, rfl, rfl, e45⟩, ⟨_, _, _, rfl, ⟨_, rfl, rfl, e46⟩, ⟨_, _, _, rfl, ⟨_, rfl, rfl, e47⟩, ⟨_, _, _, rfl, ⟨_, rfl, rfl, e48⟩, ⟨_, _, _, rfl, ⟨_, rfl, rfl, e49⟩, ⟨_, _, _, rfl, ⟨_, rfl, rfl, e50⟩, ⟨_, _, _, rfl, ⟨_, rfl, rfl, e51⟩, ⟨_, _, _, rfl, ⟨_, rfl, rfl, e52⟩, ⟨_, _, _, rfl, ⟨_, rfl, rfl, e53⟩, ⟨_, _, _, rfl, ⟨_, rfl, rfl, e54⟩, ⟨_, _, _, rfl, ⟨_, rfl, rfl, e55⟩, ⟨_, _, _, rfl, ⟨_, rfl, rfl, e56⟩, ⟨_, _, _, rfl, ⟨_, rfl, rfl, e57⟩, ⟨_, _, _, rfl, ⟨_, rfl, rfl, e58⟩, ⟨_, _, _, rfl, ⟨_, rfl, rfl, e59⟩, ⟨_, _, _, rfl, ⟨_, rfl, rfl, e60⟩, ⟨_, _, _, rfl, ⟨_, rfl, rfl, e61⟩, ⟨_, _, _, rfl, ⟨_, rfl, rfl, e62⟩, ⟨_, _, _, rfl, ⟨_, rfl, rfl, e63⟩, ⟨_, _, _, rfl, ⟨_, rfl, rfl, e64⟩, ⟨_, _, _, rfl, ⟨_, rfl, rfl, e65⟩, ⟨_, _, _, rfl, ⟨_, rfl, rfl, e66⟩, ⟨_, _, _, rfl, ⟨_, rfl, rfl, e67⟩, ⟨_, _, _, rfl, ⟨_, rfl, rfl, e68⟩, ⟨_, _, _, rfl, ⟨_, rfl, rfl, e69⟩, ⟨_, _, _, rfl, ⟨_, rfl, rfl, e70⟩, ⟨_, _, _, rfl, ⟨_, rfl, rfl, e71⟩, ⟨_, _, _, rfl, ⟨_, rfl, rfl, e72⟩, ⟨_, _, _, rfl, ⟨_, rfl, rfl, e73⟩, ⟨_, _, _, rfl, ⟨_, rfl, rfl, e74⟩, ⟨_, _, _, rfl, ⟨_, rfl, rfl, e75⟩, hr⟩⟩⟩⟩⟩⟩⟩⟩⟩⟩⟩⟩⟩⟩⟩⟩⟩⟩⟩⟩⟩⟩⟩⟩⟩⟩⟩⟩⟩⟩⟩⟩⟩⟩⟩⟩⟩⟩⟩⟩⟩⟩⟩⟩⟩⟩⟩⟩⟩⟩⟩⟩⟩⟩⟩⟩⟩⟩⟩⟩⟩⟩⟩⟩⟩⟩⟩⟩⟩⟩⟩⟩⟩⟩⟩⟩⟩
set_option maxRecDepth 100000 in
theorem arg_Snap {q : List Int} (h : rowIn (ec_Snap []) q = true) : ∃ a : Snap, Snap.ok a ∧ ∀ (w : World) (r : List Dt), cksRel w kSnap (d_Snap a r) (rowV (ec_Snap []) q) r := by
  obtain ⟨a, q', o, h, s⟩ := row_Snap h
  obtain rfl := rowIn_nil h
  exact ⟨a, o, fun w r => s w [] _ _ ⟨rfl, rfl⟩⟩
set_option maxRecDepth 100000 in
set_option maxHeartbeats 8000000 in
theorem law_StateAll {H : Type} {enc : TypeId × Value → H} {W : World} {r : Reach} {b0 : Nat} (v0 : Value) (k0 : Value.okWide Try.prog W r b0 35 v0) (d0 : DataW H) (p0 : List MemPlace) (h0 : DataW.Trod enc Try.prog W 0 (fun _ => true) true 35 v0 d0 p0) (_ : ∀ x ∈ p0, x.block < W.heap.size) (v1 : Value) (k1 : Value.okWide Try.prog W r b0 44 v1) (d1 : DataW H) (p1 : List MemPlace) (h1 : DataW.Trod enc Try.prog W 0 (fun _ => true) true 44 v1 d1 p1) (_ : ∀ x ∈ p1, x.block < W.heap.size) (a2 : Int) (w2 : (Lit.int .i64 a2).wf = true) :
    Calls Try.prog 4 #[v0, v1, .int .i64 a2] W fun e W' => e = .returned (.bool true) ∧ Below W.heap.size W W' := by
  obtain ⟨q0, rfl, g0⟩ := agg_of_arg rwSta Try.underlying35 k0 h0
  obtain ⟨a0, o0, s0⟩ := arg_Sta g0
  obtain ⟨q1, rfl, g1⟩ := agg_of_arg rwSnap Try.underlying44 k1 h1
  obtain ⟨a1, o1, s1⟩ := arg_Snap g1
  refine (sC_saall (d_Sta a0 ( d_Snap a1 ( .z a2 :: ([])))) _ W ⟨_, _, _, rfl, s0 W _, ⟨_, _, _, rfl, s1 W _, ⟨_, _, _, rfl, ⟨_, rfl, rfl, (inK_of_wf w2)⟩, ⟨rfl, rfl⟩⟩⟩⟩).mono fun e W' ⟨v, he, hr⟩ => ?_
  have hv : v = .bool true := RetOk.says hr
  rw [he, hv]
  exact ⟨rfl, hr.ext⟩
end Go.Proofs.Ytcfnglbcgkappaa

