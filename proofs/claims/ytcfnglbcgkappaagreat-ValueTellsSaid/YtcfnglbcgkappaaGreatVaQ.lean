/- Scalars as arguments. -/
import Derived.Test.YtcfnglbcgkappaaGreatBdQ
import Derived.Test.YtcfnglbcgkappaaGreatVlZ
set_option linter.unusedVariables false
set_option linter.unusedSimpArgs false
namespace Go.Proofs.YtcfnglbcgkappaaGreat
open Go.RowKit Go.ChangeShapes Go.WideShapes

def repRgS : Rep Tryz.prog 25 (Int × Int × Int × Int × Unit) :=
  Rep.struct (RepSeq.cons repU64b rfl (RepSeq.cons repU64b rfl (RepSeq.cons repI64b rfl (RepSeq.cons repI64b rfl (RepSeq.nil _ _))))) Tryz.underlying25 (by kernel_rfl)
def repKnS : Rep Tryz.prog 27 (Int × Int × Unit) :=
  Rep.struct (RepSeq.cons repU64b rfl (RepSeq.cons repU64b rfl (RepSeq.nil _ _))) Tryz.underlying27 (by kernel_rfl)
def repSc : Rep Tryz.prog 29 ((Int × Int × Int × Int × Unit) × (Int × Int × Unit) × Unit) :=
  Rep.struct (RepSeq.cons repRgS rfl (RepSeq.cons repKnS rfl (RepSeq.nil _ _))) Tryz.underlying29 (by kernel_rfl)
set_option maxRecDepth 100000 in
theorem Sc.of_arg {H : Type} {enc : TypeId × Value → H} {W : World} {r : Reach} {b0 : Nat} {v : Value} {d : DataW H} {p : List MemPlace}
    (hv : Value.okWide Tryz.prog W r b0 29 v) (h : DataW.Trod enc Tryz.prog W 0 (fun _ => true) true 29 v d p) : ∃ a : Sc, v = .agg #[.int .u64 a.ul, .int .u64 a.uh, .int .i64 a.sl, .int .i64 a.sh, .int .u64 a.v, .int .u64 a.m] ∧ a.wf := by
  obtain ⟨x, hx⟩ := repSc.arg h
  obtain ⟨cs, rfl, _⟩ := okWide_struct Tryz.underlying29 hv
  obtain ⟨c1, c2, hcs, ⟨d1, d2, rfl, ⟨rfl, w1⟩, d3, d4, rfl, ⟨rfl, w2⟩, d5, d6, rfl, ⟨rfl, w3⟩, d7, d8, rfl, ⟨rfl, w4⟩, hn⟩, c3, c4, rfl, ⟨f1, f2, rfl, ⟨rfl, w5⟩, f3, f4, rfl, ⟨rfl, w6⟩, hn2⟩, hnil⟩ := hx
  obtain rfl : d8 = [] := hn
  obtain rfl : f4 = [] := hn2
  obtain rfl : c4 = [] := hnil
  refine ⟨⟨x.1.1, x.1.2.1, x.1.2.2.1, x.1.2.2.2.1, x.2.1.1, x.2.1.2.1⟩, ?_, ⟨wf_u64 w1, wf_u64 w2, wf_i64 w3, wf_i64 w4⟩, wf_u64 w5, wf_u64 w6⟩
  have : cs.toList = [Value.int .u64 x.1.1, Value.int .u64 x.1.2.1, Value.int .i64 x.1.2.2.1, Value.int .i64 x.1.2.2.2.1, Value.int .u64 x.2.1.1, Value.int .u64 x.2.1.2.1] := by simpa [Value.cells] using hcs
  rw [← Array.toArray_toList (xs := cs), this]
theorem Sc.ok_of {a : Sc} (h : a.wf) : a.ok := by
  obtain ⟨⟨h1, h2, h3, h4⟩, h5, h6⟩ := h
  exact ⟨u64_inK h1, u64_inK h2, i64_inK h3, i64_inK h4, u64_inK h5, u64_inK h6⟩
end Go.Proofs.YtcfnglbcgkappaaGreat
