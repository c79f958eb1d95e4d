/- Ranges as arguments. -/
import Derived.Test.YtcfnglbcgkappaaGreatBd
import Derived.Test.YtcfnglbcgkappaaGreatRep
import Derived.Deep.RegionHeld3
import Derived.Deep.RegionWith
import Derived.Deep.DeepCutAuto
import Derived.Deep.CutBlock
set_option linter.unusedVariables false
set_option linter.unusedSimpArgs false
namespace Go.Proofs.YtcfnglbcgkappaaGreat
open Go.RowKit Go.ChangeShapes Go.WideShapes

def repU64b : Rep Tryz.prog 23 Int := Rep.int .u64 Tryz.underlying23 (by kernel_rfl)
def repI64b : Rep Tryz.prog 2 Int := Rep.int .i64 Tryz.underlying2 (by kernel_rfl)
def repRg : Rep Tryz.prog 25 Rg :=
  Rep.map (Rep.struct (RepSeq.cons repU64b rfl (RepSeq.cons repU64b rfl (RepSeq.cons repI64b rfl (RepSeq.cons repI64b rfl (RepSeq.nil _ _))))) Tryz.underlying25 (by kernel_rfl)) (fun x => ⟨x.1, x.2.1, x.2.2.1, x.2.2.2.1⟩)
set_option maxRecDepth 100000 in
theorem Rg.of_arg {H : Type} {enc : TypeId × Value → H} {W : World} {r : Reach} {b0 : Nat} {v : Value} {d : DataW H} {p : List MemPlace}
    (hv : Value.okWide Tryz.prog W r b0 25 v) (h : DataW.Trod enc Tryz.prog W 0 (fun _ => true) true 25 v d p) : ∃ a : Rg, v = .agg #[.int .u64 a.ul, .int .u64 a.uh, .int .i64 a.sl, .int .i64 a.sh] ∧ a.wf := by
  obtain ⟨x, hx⟩ := repRg.arg h
  obtain ⟨cs, rfl, _⟩ := okWide_struct Tryz.underlying25 hv
  obtain ⟨y, rfl, c1, c2, hcs, ⟨rfl, w1⟩, c3, c4, rfl, ⟨rfl, w2⟩, c5, c6, rfl, ⟨rfl, w3⟩, c7, c8, rfl, ⟨rfl, w4⟩, hnil⟩ := hx
  obtain rfl : c8 = [] := hnil
  refine ⟨⟨y.1, y.2.1, y.2.2.1, y.2.2.2.1⟩, ?_, wf_u64 w1, wf_u64 w2, wf_i64 w3, wf_i64 w4⟩
  have : cs.toList = [Value.int .u64 y.1, Value.int .u64 y.2.1, Value.int .i64 y.2.2.1, Value.int .i64 y.2.2.2.1] := by simpa [Value.cells] using hcs
  rw [← Array.toArray_toList (xs := cs), this]
end Go.Proofs.YtcfnglbcgkappaaGreat
