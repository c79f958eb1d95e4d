/- Known bits as arguments; the walk of the laws' wakes. -/
import Derived.Test.YtkoiaadhbgccaaaKnV
import Derived.Test.YtkoiaadhbgccaaaKnI
import Derived.Test.YtkoiaadhbgccaaaRep
set_option linter.unusedVariables false
set_option linter.unusedSimpArgs false
namespace Go.Proofs.Ytkoiaadhbgccaaa
open Go.RowKit Go.ChangeShapes Go.WideShapes

theorem new4 {w w' : World} {x0 x1 y0 y1 z0 z1 u0 u1 : Value} {t u v s : TypeId} (h : Ext ((((w.alloc (.cells #[x0, x1] t)).alloc (.cells #[y0, y1] u)).alloc (.cells #[z0, z1] v)).alloc (.cells #[u0, u1] s)) w') :
    C2 w' w.heap.size x0 x1 ∧ C2 w' (w.heap.size + 1) y0 y1 ∧ C2 w' (w.heap.size + 1 + 1) z0 z1 ∧ C2 w' (w.heap.size + 1 + 1 + 1) u0 u1 ∧ w.heap.size + 1 + 1 + 1 < w'.heap.size := by
  obtain ⟨h1, h2, h3, _⟩ := new3 (((Ext.refl _).alloc _).trans h)
  refine ⟨h1, h2, h3, ?_⟩
  have := new1 h
  simpa using this
def repU64k : Rep Try.prog 23 Int := Rep.int .u64 Try.underlying23 (by kernel_rfl)
def repKn : Rep Try.prog 48 Kn :=
  Rep.map (Rep.struct (RepSeq.cons repU64k rfl (RepSeq.cons repU64k rfl (RepSeq.nil _ _))) Try.underlying48 (by kernel_rfl)) (fun x => ⟨x.1, x.2.1⟩)
theorem Kn.of_arg {H : Type} {enc : TypeId × Value → H} {W : World} {r : Reach} {b0 : Nat} {v : Value} {d : DataW H} {p : List MemPlace}
    (hv : Value.okWide Try.prog W r b0 48 v) (h : DataW.Trod enc Try.prog W 0 (fun _ => true) true 48 v d p) : ∃ a : Kn, v = .agg #[.int .u64 a.v, .int .u64 a.m] ∧ a.wf := by
  obtain ⟨x, hx⟩ := repKn.arg h
  obtain ⟨cs, rfl, _⟩ := okWide_struct Try.underlying48 hv
  obtain ⟨y, rfl, c1, c2, hcs, ⟨rfl, w1⟩, c3, c4, rfl, ⟨rfl, w2⟩, hnil⟩ := hx
  obtain rfl : c4 = [] := hnil
  refine ⟨⟨y.1, y.2.1⟩, ?_, wf_u64 w1, wf_u64 w2⟩
  have : cs.toList = [Value.int .u64 y.1, Value.int .u64 y.2.1] := by simpa [Value.cells] using hcs
  rw [← Array.toArray_toList (xs := cs), this]

theorem wk_do (W w : World) (hx : Ext W w) : Calls Try.prog 24 #[.int .i8 5, .int .i8 64, .agg #[.int .u64 kall.v, .int .u64 kall.m], .agg #[.int .u64 (kone 7).v, .int .u64 (kone 7).m]] w fun e w' => e = .returned (.agg #[.int .u64 0, .int .u64 7]) ∧ Ext W w' := by
  have h := kdo_any 5 64 kall (kone 7) W w hx wf_kall (wf_kone (by omega))
  rw [show kdo 5 64 kall (kone 7) = ⟨0, 7⟩ from by decide +kernel] at h
  exact h
theorem wk_common (W w : World) (hx : Ext W w) : Calls Try.prog 35 #[.int .u64 8, .int .u64 11] w fun e w' => e = .returned (.agg #[.int .u64 8, .int .u64 3]) ∧ Ext W w' := by
  have h := kcommon_any 8 11 W w hx (by omega) (by omega) (by omega) (by omega)
  rw [show kcommon 8 11 = ⟨8, 3⟩ from by decide +kernel] at h
  exact h
theorem wk_has5 (W w : World) (hx : Ext W w) : Calls Try.prog 33 #[.agg #[.int .u64 0, .int .u64 7], .int .u64 5] w fun e w' => e = .returned (.bool true) ∧ Ext W w' := by
  have h := khas_any ⟨0, 7⟩ 5 W w hx
  rw [show khas ⟨0, 7⟩ 5 = true from by decide +kernel] at h
  exact h
theorem wk_has8 (W w : World) (hx : Ext W w) : Calls Try.prog 33 #[.agg #[.int .u64 0, .int .u64 7], .int .u64 8] w fun e w' => e = .returned (.bool false) ∧ Ext W w' := by
  have h := khas_any ⟨0, 7⟩ 8 W w hx
  rw [show khas ⟨0, 7⟩ 8 = false from by decide +kernel] at h
  exact h
set_option maxHeartbeats 4000000 in
theorem kwakes_any (W w : World) (hx : Ext W w) : Calls Try.prog 26 #[] w fun e w' => e = .returned (.bool true) ∧ Ext W w' := by
  have hx' : Ext w w := Ext.refl _
  have tok : True := trivial
  go_enter Try.func26, Try.ntmps26
  go_wp2_with (first
    | (go_at_call 29; (with_reducible refine (kall_any w _ (by assumption)).mono ?_); rintro e w' ⟨rfl, hx'⟩)
    | (go_at_call 46; (with_reducible refine (kone_any _ w _ (by assumption)).mono ?_); rintro e w' ⟨rfl, hx'⟩)
    | (go_at_call 24; (with_reducible refine (wk_do w _ (by assumption)).mono ?_); rintro e w1 ⟨rfl, hx1⟩; clear hx')
    | (go_at_call 35; clear tok; (with_reducible refine (wk_common _ _ (Ext.refl _)).mono ?_); rintro e w' ⟨rfl, hy⟩; obtain ⟨⟨p0, p1, pf⟩, sz⟩ := new1 hy; have hx' := (hx1.alloc _).trans hy; have P := hide (new1 hy).1; clear hy)
    | (go_at_call 33; (with_reducible refine (wk_has5 _ _ (Ext.refl _)).mono ?_); rintro e w2 ⟨rfl, hy⟩; clear p0 p1 pf; obtain ⟨p0, p1, pf⟩ := P.out.ext hy; have hx2 := hx'.trans hy; clear hy)
    | (go_at_call 33; (with_reducible refine (wk_has8 _ _ (Ext.refl _)).mono ?_); rintro e w3 ⟨rfl, hy⟩; have hx3 := hx2.trans hy; clear hy)
    | fail)
  go_ret
  exact ⟨rfl, hx.trans hx3⟩
end Go.Proofs.Ytkoiaadhbgccaaa
